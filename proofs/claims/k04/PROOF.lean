import PyProof.Rows.All
import PySem.Challenge.RW_auctionstack_k04_prices_that_fall
import Wide.All
import OpenK.AllK
import Wide.FinOn
import HandS.ForMost
import HandS.ForExc
import HandS.CallSlots
import HandS.Lambda
import HandS.TupAny
import HandS.Flow
import HandS.Style
import HandS.FStr
import HandS.SortInts
import HandS.Defaults
import HandS.AnyAll
import HandS.GenList
import PyProof.SumAny
import PyProof.TupleOfGen
import HandS.Codes
import HandS.EndTab
import HandS.HeadHook4
import HandS.Deep
import HandS.SortRule
import KE.GoesEnum
import HandS.Iter
import HandS.Zip
import HandS.Head2
import KE.KDictZip
import KE.KTurns
import HandS.More
import HandS.DictComp
import HandS.ListItems
import HandS.Small
import KE.KEqNest
import KE.DataMinMax
import KE.SortData
import HandS.Flt
import HandS.Text
import HandS.RaiseMore
import HandS.HeadEnd
section
set_option Elab.async false
set_option linter.all false
set_option maxRecDepth 100000
set_option maxHeartbeats 2000000
namespace DV
open PySem L2

/-- a value as plain data; ref: a thing of the plain heap -/
inductive D where
  | non | bl (b : Bool) | int (i : Int) | str (x : Str)
  | tup (ds : List D) | lst (ds : List D) | dct (kvs : List (Key × D)) | obj (c : Nat) (fs : List (Str × D))
  | ref (n : Nat) | clo (k : Nat) | scr (ns : List Int)
  deriving Inhabited

/-- a thing of the plain heap -/
inductive O where
  | lst (ds : List D) | dct (kvs : List (Key × D)) | lkd (kvs : List (Key × D)) | ins (c : Nat) (fs : List (Str × D))
  deriving Inhabited
abbrev AH := List (Option O)
abbrev AS := List (Option D)

/-- what is known for good, and what is held apart -/
structure Kn where
  f : Addr → Option HO
  pr : List (Addr × HO)
instance : CoeFun Kn (fun _ => Addr → Option HO) := ⟨Kn.f⟩
def Kn.add (F : Kn) (p : Addr) (o : HO) : Kn := ⟨upd F.f p o, F.pr⟩
structure G where
  K : PySem.W.Frag
  cls : Nat → Addr
  exc : Nat → Addr
  Cl : Nat → Addr → HO → Addr → HO → Prop
  Ti : Hp → Prop

def TupAt (K : PySem.W.Frag) (F : Kn) (a : Addr) (vs : List V) : Prop := F a = some (.tup vs) ∨ (∀ H : Hp, SqT K H a vs)

/-- the law's own list: held for good, or as the module has it -/
def ScrAt (K : PySem.W.Frag) (F : Kn) (a : Addr) (ns : List Int) : Prop := (∃ o, F a = some o ∧ (o = .lst (ns.map V.int) ∨ ∃ ob, o = .frz ob (.lst (ns.map V.int)))) ∨ ∀ H : Hp, SqL K H a (ns.map V.int)
mutual
def VR (g : G) (F : Kn) (ι : List Addr) : D → V → Prop
  | .non, v => v = .non
  | .bl b, v => v = .bl b
  | .int i, v => v = .int i
  | .str x, v => v = .str x
  | .tup ds, v => ∃ a vs, v = .ref a ∧ TupAt g.K F a vs ∧ VRs g F ι ds vs
  | .lst ds, v => ∃ a vs, v = .ref a ∧ F a = some (.lst vs) ∧ VRs g F ι ds vs
  | .dct kvs, v => ∃ a ws, v = .ref a ∧ F a = some (.dK ws) ∧ VRk g F ι kvs ws
  | .obj c fs, v => ∃ a dx ws, v = .ref a ∧ F a = some (.ins (g.cls c) dx ws) ∧ VRf g F ι fs ws
  | .ref n, v => ∃ a, v = .ref a ∧ ι[n]? = some a
  | .clo k, v => ∃ a o c u, v = .ref a ∧ F a = some o ∧ F c = some u ∧ g.Cl k a o c u
  | .scr ns, v => ∃ a, v = .ref a ∧ ScrAt g.K F a ns
def VRs (g : G) (F : Kn) (ι : List Addr) : List D → List V → Prop
  | [], vs => vs = []
  | d :: ds, vs => ∃ v ws, vs = v :: ws ∧ VR g F ι d v ∧ VRs g F ι ds ws
def VRk (g : G) (F : Kn) (ι : List Addr) : List (Key × D) → List (Key × V) → Prop
  | [], vs => vs = []
  | (k, d) :: ds, vs => ∃ v ws, vs = (k, v) :: ws ∧ VR g F ι d v ∧ VRk g F ι ds ws
def VRf (g : G) (F : Kn) (ι : List Addr) : List (Str × D) → List (Str × V) → Prop
  | [], vs => vs = []
  | (k, d) :: ds, vs => ∃ v ws, vs = (k, v) :: ws ∧ VR g F ι d v ∧ VRf g F ι ds ws
end

/-- the known part grows -/
structure Lf (F : Kn) (ι : List Addr) (F' : Kn) (ι' : List Addr) : Prop where
  fr : ∀ a o, F a = some o → F' a = some o
  io : ∃ more, ι' = ι ++ more
theorem Lf.refl {F : Kn} {ι : List Addr} : Lf F ι F ι := ⟨fun _ _ h => h, [], by simp⟩
theorem Lf.trans {F F1 F2 : Kn} {ι ι1 ι2 : List Addr} (a : Lf F ι F1 ι1) (b : Lf F1 ι1 F2 ι2) : Lf F ι F2 ι2 :=
  ⟨fun x o h => b.fr x o (a.fr x o h), by obtain ⟨m, rfl⟩ := a.io; obtain ⟨m', rfl⟩ := b.io; exact ⟨m ++ m', by simp⟩⟩
theorem Lf.at {F F1 : Kn} {ι ι1 : List Addr} (a : Lf F ι F1 ι1) {n : Nat} {x : Addr} (h : ι[n]? = some x) : ι1[n]? = some x := by
  obtain ⟨m, rfl⟩ := a.io
  rw [List.getElem?_append_left (List.getElem?_eq_some_iff.mp h).1]; exact h
/-- .. what is held apart stays -/
structure Le (F : Kn) (ι : List Addr) (F' : Kn) (ι' : List Addr) : Prop extends Lf F ι F' ι' where
  pr : F'.pr = F.pr
theorem Le.refl {F : Kn} {ι : List Addr} : Le F ι F ι := ⟨.refl, rfl⟩
theorem Le.trans {F F1 F2 : Kn} {ι ι1 ι2 : List Addr} (a : Le F ι F1 ι1) (b : Le F1 ι1 F2 ι2) : Le F ι F2 ι2 := ⟨a.toLf.trans b.toLf, b.pr.trans a.pr⟩
theorem Le.at {F F1 : Kn} {ι ι1 : List Addr} (a : Le F ι F1 ι1) {n : Nat} {x : Addr} (h : ι[n]? = some x) : ι1[n]? = some x := a.toLf.at h

mutual
theorem VR.monoF {g : G} {F F' : Kn} {ι ι' : List Addr} (l : Lf F ι F' ι') : ∀ (d : D) (v : V), VR g F ι d v → VR g F' ι' d v
  | .non, v, h => by simpa only [VR] using h
  | .bl b, v, h => by simpa only [VR] using h
  | .int i, v, h => by simpa only [VR] using h
  | .str x, v, h => by simpa only [VR] using h
  | .tup ds, v, h => by
    simp only [VR] at h ⊢
    obtain ⟨a, vs, e, t, r⟩ := h
    exact ⟨a, vs, e, t.imp (l.fr _ _) id, VRs.monoF l ds vs r⟩
  | .lst ds, v, h => by
    simp only [VR] at h ⊢
    obtain ⟨a, vs, e, t, r⟩ := h
    exact ⟨a, vs, e, l.fr _ _ t, VRs.monoF l ds vs r⟩
  | .dct kvs, v, h => by
    simp only [VR] at h ⊢
    obtain ⟨a, vs, e, t, r⟩ := h
    exact ⟨a, vs, e, l.fr _ _ t, VRk.monoF l kvs vs r⟩
  | .obj c fs, v, h => by
    simp only [VR] at h ⊢
    obtain ⟨a, dx, vs, e, t, r⟩ := h
    exact ⟨a, dx, vs, e, l.fr _ _ t, VRf.monoF l fs vs r⟩
  | .ref n, v, h => by
    simp only [VR] at h ⊢
    obtain ⟨a, e, t⟩ := h
    exact ⟨a, e, l.at t⟩
  | .clo k, v, h => by
    simp only [VR] at h ⊢
    obtain ⟨a, o, c, u, e, t, t2, q⟩ := h
    exact ⟨a, o, c, u, e, l.fr _ _ t, l.fr _ _ t2, q⟩
  | .scr ns, v, h => by
    simp only [VR] at h ⊢
    obtain ⟨a, e, t⟩ := h
    exact ⟨a, e, t.imp (fun ⟨o, z, q⟩ => ⟨o, l.fr _ _ z, q⟩) id⟩
theorem VRs.monoF {g : G} {F F' : Kn} {ι ι' : List Addr} (l : Lf F ι F' ι') : ∀ (d : List D) (v : List V), VRs g F ι d v → VRs g F' ι' d v
  | [], v, h => by simpa only [VRs] using h
  | d :: ds, v, h => by
    simp only [VRs] at h ⊢
    obtain ⟨x, ws, e, r, rs⟩ := h
    exact ⟨x, ws, e, VR.monoF l d x r, VRs.monoF l ds ws rs⟩
theorem VRk.monoF {g : G} {F F' : Kn} {ι ι' : List Addr} (l : Lf F ι F' ι') : ∀ (d : List (Key × D)) (v : List (Key × V)), VRk g F ι d v → VRk g F' ι' d v
  | [], v, h => by simpa only [VRk] using h
  | (k, d) :: ds, v, h => by
    simp only [VRk] at h ⊢
    obtain ⟨x, ws, e, r, rs⟩ := h
    exact ⟨x, ws, e, VR.monoF l d x r, VRk.monoF l ds ws rs⟩
theorem VRf.monoF {g : G} {F F' : Kn} {ι ι' : List Addr} (l : Lf F ι F' ι') : ∀ (d : List (Str × D)) (v : List (Str × V)), VRf g F ι d v → VRf g F' ι' d v
  | [], v, h => by simpa only [VRf] using h
  | (k, d) :: ds, v, h => by
    simp only [VRf] at h ⊢
    obtain ⟨x, ws, e, r, rs⟩ := h
    exact ⟨x, ws, e, VR.monoF l d x r, VRf.monoF l ds ws rs⟩
end

theorem VR.mono {g : G} {F F' : Kn} {ι ι' : List Addr} (l : Le F ι F' ι') (d : D) (v : V) (h : VR g F ι d v) : VR g F' ι' d v := VR.monoF l.toLf d v h
theorem VRs.mono {g : G} {F F' : Kn} {ι ι' : List Addr} (l : Le F ι F' ι') (d : List D) (v : List V) (h : VRs g F ι d v) : VRs g F' ι' d v := VRs.monoF l.toLf d v h
theorem VRk.mono {g : G} {F F' : Kn} {ι ι' : List Addr} (l : Le F ι F' ι') (d : List (Key × D)) (v : List (Key × V)) (h : VRk g F ι d v) : VRk g F' ι' d v := VRk.monoF l.toLf d v h
theorem VRf.mono {g : G} {F F' : Kn} {ι ι' : List Addr} (l : Le F ι F' ι') (d : List (Str × D)) (v : List (Str × V)) (h : VRf g F ι d v) : VRf g F' ι' d v := VRf.monoF l.toLf d v h

def OR (g : G) (F : Kn) (ι : List Addr) : O → HO → Prop
  | .lst ds, x => ∃ vs, x = .lst vs ∧ VRs g F ι ds vs
  | .dct kvs, x => ∃ ws, x = .dK ws ∧ VRk g F ι kvs ws
  | .lkd kvs, x => ∃ ob ws, x = .frz ob (.dK ws) ∧ VRk g F ι kvs ws
  | .ins c fs, x => ∃ dx ws, x = .ins (g.cls c) dx ws ∧ VRf g F ι fs ws
theorem OR.monoF {g : G} {F F' : Kn} {ι ι' : List Addr} (l : Lf F ι F' ι') : ∀ {o : O} {x : HO}, OR g F ι o x → OR g F' ι' o x
  | .lst ds, x, ⟨vs, e, r⟩ => ⟨vs, e, VRs.monoF l _ _ r⟩
  | .dct ds, x, ⟨vs, e, r⟩ => ⟨vs, e, VRk.monoF l _ _ r⟩
  | .lkd ds, x, ⟨ob, vs, e, r⟩ => ⟨ob, vs, e, VRk.monoF l _ _ r⟩
  | .ins c ds, x, ⟨dx, vs, e, r⟩ => ⟨dx, vs, e, VRf.monoF l _ _ r⟩
theorem OR.mono {g : G} {F F' : Kn} {ι ι' : List Addr} (l : Le F ι F' ι') {o : O} {x : HO} (h : OR g F ι o x) : OR g F' ι' o x := h.monoF l.toLf

theorem OR.nt {g : G} {F : Kn} {ι : List Addr} : ∀ {o : O} {x : HO}, OR g F ι o x → ∀ ps, x ≠ .tbl ps
  | .lst ds, x, ⟨vs, e, r⟩, ps, z => by rw [e] at z; cases z
  | .dct ds, x, ⟨vs, e, r⟩, ps, z => by rw [e] at z; cases z
  | .lkd ds, x, ⟨ob, vs, e, r⟩, ps, z => by rw [e] at z; cases z
  | .ins c ds, x, ⟨dx, vs, e, r⟩, ps, z => by rw [e] at z; cases z
/-- what is known stands (a dict maybe locked) -/
def Std (H : Hp) (a : Addr) (o : HO) : Prop := (H a = some o ∧ ∀ ps, o ≠ .tbl ps) ∨ ∃ ws ob, o = .dK ws ∧ H a = some (.frz ob o)

/-- the plain heap, held -/
structure HR (g : G) (F : Kn) (ι : List Addr) (h : AH) (H : Hp) : Prop where
  fr : ∀ a o, F a = some o → Std H a o
  hp : ∀ (n : Nat) (o : O), h[n]? = some (some o) → ∃ a x, ι[n]? = some a ∧ H a = some x ∧ OR g F ι o x ∧ F a = none
  inj : ∀ (n m : Nat) (a : Addr), (∃ o, h[n]? = some (some o)) → (∃ o, h[m]? = some (some o)) → ι[n]? = some a → ι[m]? = some a → n = m
  len : ι.length = h.length
  ti : g.Ti H
  pv : ∀ q ∈ F.pr, H q.1 = some q.2 ∧ F q.1 = none ∧ ∀ (n : Nat) (o : O), h[n]? = some (some o) → ι[n]? ≠ some q.1
  pt : ∀ q ∈ F.pr, ∃ xs, q.2 = .lst xs
/-- the slots -/
def LR (g : G) (F : Kn) (ι : List Addr) (σ : AS) (σv : L2.St) : Prop :=
  σ.length = σv.length ∧ ∀ (i : Nat) (d : D), σ[i]? = some (some d) → ∃ v, σv[i]? = some (some v) ∧ VR g F ι d v
structure SR (g : G) (F : Kn) (ι : List Addr) (σ : AS) (h : AH) (σv : L2.St) (H : Hp) : Prop where
  hr : HR g F ι h H
  lr : LR g F ι σ σv
theorem LR.monoF {g : G} {F F' : Kn} {ι ι' : List Addr} (l : Lf F ι F' ι') {σ : AS} {σv : L2.St} (r : LR g F ι σ σv) : LR g F' ι' σ σv :=
  ⟨r.1, fun i d e => let ⟨v, e', q⟩ := r.2 i d e; ⟨v, e', VR.monoF l _ _ q⟩⟩
theorem LR.mono {g : G} {F F' : Kn} {ι ι' : List Addr} (l : Le F ι F' ι') {σ : AS} {σv : L2.St} (r : LR g F ι σ σv) : LR g F' ι' σ σv := r.monoF l.toLf

/-! ### results -/
inductive Rv (α : Type) where
  | ok (a : α) (h : AH) | exc (c : Nat) (h : AH) | stuck
inductive Fl where
  | nx (σ : AS) | rt (d : D) | bk (σ : AS) | ct (σ : AS)
inductive Rs where
  | ok (f : Fl) (h : AH) | exc (c : Nat) (σ : AS) (h : AH) | stuck
abbrev ME := AS → AH → Rv D
abbrev MA := AS → AH → Rv (List D)
abbrev MT := AS → AH → Rv Bool
abbrev MS := AS → AH → Rs

def bindR {α β : Type} (r : Rv α) (f : α → AH → Rv β) : Rv β :=
  match r with
  | .ok a h => f a h
  | .exc c h => .exc c h
  | .stuck => .stuck

/-- what is wanted of a result -/
def Post {α β : Type} (g : G) (W : WX) (F : Kn) (ι : List Addr) (σv : L2.St) (rel : Kn → List Addr → α → β → Prop) (r : Rv α) (Q : β → Hp → Prop) : Prop :=
  match r with
  | .ok d h => ∀ F' ι' H' v, Le F ι F' ι' → HR g F' ι' h H' → rel F' ι' d v → Q v H'
  | .exc c h => ∀ F' ι' H', Le F ι F' ι' → HR g F' ι' h H' → W (.ref (g.exc c)) none σv H'
  | .stuck => False
theorem Post.le {α β : Type} {g : G} {W : WX} {F F1 : Kn} {ι ι1 : List Addr} {σv : L2.St} {rel : Kn → List Addr → α → β → Prop} {r : Rv α} {Q : β → Hp → Prop} (l : Le F ι F1 ι1)
    (p : Post g W F ι σv rel r Q) : Post g W F1 ι1 σv rel r Q := by
  cases r with
  | ok d h => exact fun F' ι' H' v l' hr rv => p F' ι' H' v (l.trans l') hr rv
  | exc c h => exact fun F' ι' H' l' hr => p F' ι' H' (l.trans l') hr
  | stuck => exact p

def tM {α β : Type} (g : G) (W : WX) (rel : Kn → List Addr → α → β → Prop) (m : AS → AH → Rv α) : L2.St → Hp → (β → Hp → Prop) → Prop := fun σv H Q =>
  ∃ F ι σ h, HR g F ι h H ∧ LR g F ι σ σv ∧ Post g W F ι σv rel (m σ h) Q
abbrev tE (g : G) (W : WX) (m : ME) : TE := tM g W (VR g) m
abbrev tA (g : G) (W : WX) (m : MA) : TA := tM g W (VRs g) m
abbrev tT (g : G) (W : WX) (m : MT) : TT := tM g W (fun _ _ b c => c = b) m

/-- a step, then what follows -/
theorem tM_bind {α β α' β' : Type} {g : G} {W : WX} {rel : Kn → List Addr → α → β → Prop} {rel' : Kn → List Addr → α' → β' → Prop} {m : AS → AH → Rv α} {f : AS → α → AH → Rv α'} {F : Kn} {ι : List Addr} {σ : AS} {h : AH} {σv : L2.St} {H : Hp}
    {Q : β → Hp → Prop} {Q' : β' → Hp → Prop} (hr : HR g F ι h H) (lr : LR g F ι σ σv) (p : Post g W F ι σv rel' (bindR (m σ h) (f σ)) Q')
    (k : ∀ F1 ι1 H1 a h1 v, Le F ι F1 ι1 → HR g F1 ι1 h1 H1 → LR g F1 ι1 σ σv → rel F1 ι1 a v → Post g W F1 ι1 σv rel' (f σ a h1) Q' → Q v H1) : tM g W rel m σv H Q := by
  refine ⟨F, ι, σ, h, hr, lr, ?_⟩
  revert p
  cases m σ h with
  | ok a h1 => exact fun p F1 ι1 H1 v l hr1 r1 => k F1 ι1 H1 a h1 v l hr1 (lr.mono l) r1 (p.le l)
  | exc c h1 => exact fun p => p
  | stuck => exact fun p => p
end DV
end
section
set_option Elab.async false
set_option linter.all false
set_option maxRecDepth 100000
set_option maxHeartbeats 2000000
namespace DV
open PySem L2

/-! ### weakening -/
section
variable {X : Cx} {e : Expr} {es : List Expr}
theorem PE_weak {t t' : TE} (h : PE X e t) (k : ∀ σ H Q, t' σ H Q → t σ H Q) : PE X e t' := ⟨fun pins s σ H Q I q => h.run pins s σ H Q I (k σ H Q q)⟩
theorem PT_weak {t t' : TT} (h : PT X e t) (k : ∀ σ H Q, t' σ H Q → t σ H Q) : PT X e t' := ⟨fun pins s σ H Q I q => h.run pins s σ H Q I (k σ H Q q)⟩
theorem PW_weak {t t' : TT} (h : PW X e t) (k : ∀ σ H Q, t' σ H Q → t σ H Q) : PW X e t' := ⟨fun wh pins s σ H Q I q => h.run wh pins s σ H Q I (k σ H Q q)⟩
theorem PA_weak {t t' : TA} (h : PA X es t) (k : ∀ σ H Q, t' σ H Q → t σ H Q) : PA X es t' := ⟨fun pos pins s σ H Q I q => h.run pos pins s σ H Q I (k σ H Q q)⟩
theorem PO_weak {e : Option Expr} {t t' : TO} (h : PO X e t) (k : ∀ σ H Q, t' σ H Q → t σ H Q) : PO X e t' := ⟨fun pins s σ H Q I q => h.run pins s σ H Q I (k σ H Q q)⟩
end

/-! ### the heap relation: steps -/
section
variable {g : G} {F : Kn} {ι : List Addr} {h : AH} {H : Hp}
theorem add_same {F : Kn} {a : Addr} {o : HO} : (F.add a o) a = some o := upd_same
theorem add_ne {F : Kn} {a b : Addr} {o : HO} (h : b ≠ a) : (F.add a o) b = F b := upd_ne h
theorem Le.add {F : Kn} {ι : List Addr} {p : Addr} {o : HO} (h : F p = none) : Le F ι (F.add p o) ι := ⟨⟨fun a u e => by rw [add_ne (ne_of_none (H := F.f) e h)]; exact e, [], by simp⟩, rfl⟩
theorem HR.free (r : HR g F ι h H) {p : Addr} (hp : H p = none) : F p = none := by
  cases e : F p with
  | none => rfl
  | some o =>
    rcases r.fr p o e with ⟨z, _⟩ | ⟨_, _, _, z⟩ <;> rw [hp] at z <;> cases z
def Wr : Option HO → Prop
  | some (.lst _) => True
  | some (.dK _) => True
  | some (.ins _ _ _) => True
  | some (.frz _ _) => True
  | _ => False
/-- what Ti bears -/
structure TiOk (g : G) : Prop where
  upd : ∀ (H : Hp) (a : Addr) (o : HO), g.Ti H → (H a = none ∨ Wr (H a)) → g.Ti (upd H a o)
/-- a new known thing -/
theorem HR.newF (t : TiOk g) (r : HR g F ι h H) {p : Addr} (hp : H p = none) (o : HO) (hnt : ∀ ps, o ≠ HO.tbl ps := by intro _ z; cases z) : HR g (F.add p o) ι h (upd H p o) ∧ Le F ι (F.add p o) ι := by
  have hF := r.free hp
  have l : Le F ι (F.add p o) ι := Le.add hF
  refine ⟨⟨fun a u e => ?_, fun n u e => ?_, r.inj, r.len, t.upd _ _ _ r.ti (.inl hp), fun q hq => ?_, r.pt⟩, l⟩
  · by_cases ha : a = p
    · rw [ha, add_same] at e
      rw [ha]
      cases e
      exact .inl ⟨upd_same, hnt⟩
    · rw [add_ne ha] at e
      unfold Std
      rw [upd_ne ha]
      exact r.fr a u e
  · obtain ⟨a, x, e1, e2, e3, e4⟩ := r.hp n u e
    have ha : a ≠ p := ne_of_none e2 hp
    exact ⟨a, x, e1, by rw [upd_ne ha]; exact e2, e3.mono l, by rw [add_ne ha]; exact e4⟩
  · obtain ⟨q1, q2, q3⟩ := r.pv q hq
    have ha : q.1 ≠ p := ne_of_none q1 hp
    exact ⟨by rw [upd_ne ha]; exact q1, by rw [add_ne ha]; exact q2, q3⟩
/-- a new thing of the plain heap -/
theorem HR.newO (t : TiOk g) (r : HR g F ι h H) {p : Addr} (hp : H p = none) {o : O} {x : HO} (ho : OR g F ι o x) : HR g F (ι ++ [p]) (h ++ [some o]) (upd H p x) ∧ Le F ι F (ι ++ [p]) := by
  have l : Le F ι F (ι ++ [p]) := ⟨⟨fun _ _ e => e, [p], rfl⟩, rfl⟩
  have hl := r.len
  have old : ∀ {n : Nat} {u : O}, (h ++ [some o])[n]? = some (some u) → (n < h.length ∧ h[n]? = some (some u)) ∨ (n = h.length ∧ u = o) := by
    intro n u e
    by_cases hn : n < h.length
    · rw [List.getElem?_append_left hn] at e
      exact .inl ⟨hn, e⟩
    · rw [List.getElem?_append_right (by omega)] at e
      by_cases hz : n - h.length = 0
      · rw [hz] at e
        simp at e
        exact .inr ⟨by omega, e.symm⟩
      · rw [List.getElem?_eq_none (by simp; omega)] at e
        cases e
  have iold : ∀ {n : Nat} {a : Addr}, n < h.length → (ι ++ [p])[n]? = some a → ι[n]? = some a := by
    intro n a hn e
    rwa [List.getElem?_append_left (by omega)] at e
  have inew : ∀ {a : Addr}, (ι ++ [p])[h.length]? = some a → a = p := by
    intro a e
    rw [← hl] at e
    simp at e
    exact e.symm
  refine ⟨⟨fun a u e => ?_, fun n u e => ?_, fun n m a hn hm en em => ?_, by simp [hl], t.upd _ _ _ r.ti (.inl hp), fun q hq => ?_, r.pt⟩, l⟩
  · have ha : a ≠ p := by
      rintro rfl
      rw [r.free hp] at e
      cases e
    unfold Std
    rw [upd_ne ha]
    exact r.fr a u e
  · rcases old e with ⟨hn, e⟩ | ⟨hn, rfl⟩
    · obtain ⟨a, y, e1, e2, e3, e4⟩ := r.hp n u e
      exact ⟨a, y, l.at e1, by rw [upd_ne (ne_of_none e2 hp)]; exact e2, e3.mono l, e4⟩
    · rw [hn, ← hl]
      exact ⟨p, x, by simp, upd_same, ho.mono l, r.free hp⟩
  · obtain ⟨u, hn⟩ := hn
    obtain ⟨u', hm⟩ := hm
    rcases old hn with ⟨n1, e1⟩ | ⟨n1, rfl⟩ <;> rcases old hm with ⟨m1, e2⟩ | ⟨m1, rfl⟩
    · exact r.inj n m a ⟨_, e1⟩ ⟨_, e2⟩ (iold n1 en) (iold m1 em)
    · rw [m1] at em
      have z := inew em
      obtain ⟨b, y, q1, q2, _⟩ := r.hp n _ e1
      rw [iold n1 en] at q1
      cases q1
      rw [z, hp] at q2
      cases q2
    · rw [n1] at en
      have z := inew en
      obtain ⟨b, y, q1, q2, _⟩ := r.hp m _ e2
      rw [iold m1 em] at q1
      cases q1
      rw [z, hp] at q2
      cases q2
    · omega
  · obtain ⟨q1, q2, q3⟩ := r.pv q hq
    have ha : q.1 ≠ p := ne_of_none q1 hp
    refine ⟨by rw [upd_ne ha]; exact q1, q2, fun n u e => ?_⟩
    rcases old e with ⟨hn, e⟩ | ⟨hn, rfl⟩
    · intro z
      exact q3 n u e (iold hn z)
    · rw [hn]
      intro z
      exact ha (inew z)
/-- a thing of the plain heap is written -/
theorem HR.write (t : TiOk g) (r : HR g F ι h H) {n : Nat} {o o' : O} {a : Addr} {x' : HO} (hn : h[n]? = some (some o)) (ha : ι[n]? = some a) (hm : Wr (H a)) (ho : OR g F ι o' x') :
    HR g F ι (h.set n (some o')) (upd H a x') := by
  have hlt : n < h.length := (List.getElem?_eq_some_iff.mp hn).1
  obtain ⟨a', x, q1, q2, q3, q4⟩ := r.hp n o hn
  rw [ha] at q1
  cases q1
  refine ⟨fun b u e => ?_, fun m u e => ?_, fun m k b hm' hk e1 e2 => ?_, by simp [r.len], t.upd _ _ _ r.ti (.inr hm), fun q hq => ?_, r.pt⟩
  · have hb : b ≠ a := by
      rintro rfl
      rw [q4] at e
      cases e
    unfold Std
    rw [upd_ne hb]
    exact r.fr b u e
  · by_cases hmn : m = n
    · subst hmn
      rw [List.getElem?_set_self hlt] at e
      cases e
      exact ⟨a, x', ha, upd_same, ho, q4⟩
    · rw [List.getElem?_set_ne (Ne.symm hmn)] at e
      obtain ⟨b, y, p1, p2, p3, p4⟩ := r.hp m u e
      have hb : b ≠ a := by
        rintro rfl
        exact hmn (r.inj m n _ ⟨u, e⟩ ⟨o, hn⟩ p1 ha)
      exact ⟨b, y, p1, by rw [upd_ne hb]; exact p2, p3, p4⟩
  · have live : ∀ {m : Nat}, (∃ o, (h.set n (some o'))[m]? = some (some o)) → ∃ o, h[m]? = some (some o) := by
      rintro m ⟨u, e⟩
      by_cases hmn : m = n
      · subst hmn
        exact ⟨o, hn⟩
      · rw [List.getElem?_set_ne (Ne.symm hmn)] at e
        exact ⟨u, e⟩
    exact r.inj m k b (live hm') (live hk) e1 e2
  · obtain ⟨p1, p2, p3⟩ := r.pv q hq
    have hb : q.1 ≠ a := fun z => p3 n o hn (by rw [ha, z])
    refine ⟨by rw [upd_ne hb]; exact p1, p2, fun m u e => ?_⟩
    by_cases hmn : m = n
    · subst hmn
      exact p3 m o hn
    · rw [List.getElem?_set_ne (Ne.symm hmn)] at e
      exact p3 m u e
/-- a thing of the plain heap is forgotten -/
theorem HR.drop (r : HR g F ι h H) (n : Nat) : HR g F ι (h.set n none) H := by
  have old : ∀ {m : Nat} {u : O}, (h.set n none)[m]? = some (some u) → m ≠ n ∧ h[m]? = some (some u) := by
    intro m u e
    by_cases hmn : m = n
    · subst hmn
      by_cases hl : m < h.length
      · rw [List.getElem?_set_self hl] at e
        cases e
      · rw [List.getElem?_eq_none (by simpa using hl)] at e
        cases e
    · rw [List.getElem?_set_ne (Ne.symm hmn)] at e
      exact ⟨hmn, e⟩
  exact ⟨r.fr, fun m u e => r.hp m u (old e).2, fun m k b ⟨u, hm⟩ ⟨u', hk⟩ e1 e2 => r.inj m k b ⟨u, (old hm).2⟩ ⟨u', (old hk).2⟩ e1 e2, by simp [r.len], r.ti, fun q hq => ⟨(r.pv q hq).1, (r.pv q hq).2.1, fun m u e => (r.pv q hq).2.2 m u (old e).2⟩, r.pt⟩
/-- a thing of the plain heap becomes known for good -/
theorem HR.freeze (r : HR g F ι h H) {n : Nat} {o : O} {a : Addr} {x : HO} (hn : h[n]? = some (some o)) (ha : ι[n]? = some a) (hx : H a = some x) :
    HR g (Kn.add F a x) ι (h.set n none) H ∧ Le F ι (Kn.add F a x) ι := by
  obtain ⟨a', x0, q1, q2, q3, q4⟩ := r.hp n o hn
  rw [ha] at q1
  cases q1
  have l : Le F ι (F.add a x) ι := Le.add q4
  have old : ∀ {m : Nat} {u : O}, (h.set n none)[m]? = some (some u) → m ≠ n ∧ h[m]? = some (some u) := by
    intro m u e
    by_cases hmn : m = n
    · subst hmn
      rw [List.getElem?_set_self (List.getElem?_eq_some_iff.mp hn).1] at e
      cases e
    · rw [List.getElem?_set_ne (Ne.symm hmn)] at e
      exact ⟨hmn, e⟩
  refine ⟨⟨fun b u e => ?_, fun m u e => ?_, fun m k b ⟨u, hm⟩ ⟨u', hk⟩ e1 e2 => r.inj m k b ⟨u, (old hm).2⟩ ⟨u', (old hk).2⟩ e1 e2, by simp [r.len], r.ti, fun q hq => ?_, r.pt⟩, l⟩
  · by_cases hb : b = a
    · subst hb
      rw [add_same] at e
      cases e
      exact .inl ⟨hx, by rw [hx] at q2; cases q2; exact q3.nt⟩
    · rw [add_ne hb] at e
      exact r.fr b u e
  · obtain ⟨hmn, e⟩ := old e
    obtain ⟨b, y, p1, p2, p3, p4⟩ := r.hp m u e
    have hb : b ≠ a := by
      rintro rfl
      exact hmn (r.inj m n _ ⟨u, e⟩ ⟨o, hn⟩ p1 ha)
    exact ⟨b, y, p1, p2, p3.mono l, by rw [add_ne hb]; exact p4⟩
  · obtain ⟨p1, p2, p3⟩ := r.pv q hq
    have hb : q.1 ≠ a := fun z => p3 n o hn (by rw [ha, z])
    exact ⟨p1, by rw [add_ne hb]; exact p2, fun m u e => p3 m u (old e).2⟩
end

/-! ### what a value is -/
def getLs (h : AH) : D → Option (List D)
  | .lst ds => some ds
  | .ref n => match h[n]? with | some (some (.lst ds)) => some ds | _ => none
  | _ => none
def getL (h : AH) : D → Option (List D)
  | .lst ds => some ds
  | .scr ns => some (ns.map D.int)
  | .ref n => match h[n]? with | some (some (.lst ds)) => some ds | _ => none
  | _ => none
def getS (h : AH) : D → Option (List D)
  | .tup ds => some ds
  | d => getL h d
def getK (h : AH) : D → Option (List (Key × D))
  | .dct ds => some ds
  | .ref n => match h[n]? with | some (some (.dct ds)) => some ds | some (some (.lkd ds)) => some ds | _ => none
  | _ => none
def getI (h : AH) : D → Option (Nat × List (Str × D))
  | .obj c fs => some (c, fs)
  | .ref n => match h[n]? with | some (some (.ins c fs)) => some (c, fs) | _ => none
  | _ => none
section
variable {g : G} {F : Kn} {ι : List Addr} {h : AH} {H : Hp}
theorem std_lst {a : Addr} {vs : List V} (s : Std H a (.lst vs)) : H a = some (.lst vs) := by
  rcases s with ⟨s, _⟩ | ⟨_, _, e, _⟩
  · exact s
  · cases e
theorem std_tup {a : Addr} {vs : List V} (s : Std H a (.tup vs)) : H a = some (.tup vs) := by
  rcases s with ⟨s, _⟩ | ⟨_, _, e, _⟩
  · exact s
  · cases e
theorem std_ins {a C dx : Addr} {fs : List (Str × V)} (s : Std H a (.ins C dx fs)) : H a = some (.ins C dx fs) := by
  rcases s with ⟨s, _⟩ | ⟨_, _, e, _⟩
  · exact s
  · cases e
theorem VRs.ints : ∀ (ns : List Int), VRs g F ι (ns.map D.int) (ns.map V.int)
  | [] => by simp [VRs]
  | n :: ns => by
    simp only [List.map_cons, VRs]
    exact ⟨_, _, rfl, by simp [VR], VRs.ints ns⟩
theorem getL_ok (r : HR g F ι h H) {d : D} {v : V} {ds : List D} (e : getL h d = some ds) (rv : VR g F ι d v) : ∃ a vs, v = .ref a ∧ SqL g.K H a vs ∧ VRs g F ι ds vs := by
  cases d with
  | lst es =>
    cases e
    simp only [VR] at rv
    obtain ⟨a, vs, rfl, t, q⟩ := rv
    exact ⟨a, vs, rfl, SqL.of (std_lst (r.fr _ _ t)), q⟩
  | ref n =>
    simp only [VR] at rv
    obtain ⟨a, rfl, t⟩ := rv
    simp only [getL] at e
    split at e
    · rename_i es q
      cases e
      obtain ⟨b, x, q1, q2, ⟨vs, rfl, q3⟩, _⟩ := r.hp n _ q
      rw [t] at q1
      cases q1
      exact ⟨a, vs, rfl, SqL.of q2, q3⟩
    · cases e
  | scr ns =>
    cases e
    simp only [VR] at rv
    obtain ⟨a, rfl, t⟩ := rv
    rcases t with ⟨o, t, q⟩ | t
    · rcases r.fr _ _ t with ⟨z, _⟩ | ⟨_, _, z, _⟩
      · rcases q with rfl | ⟨ob, rfl⟩
        · exact ⟨a, _, rfl, .inl (.inl z), VRs.ints ns⟩
        · exact ⟨a, _, rfl, .inl (.inr ⟨ob, z⟩), VRs.ints ns⟩
      · rcases q with rfl | ⟨ob, rfl⟩ <;> cases z
    · exact ⟨a, _, rfl, t H, VRs.ints ns⟩
  | _ => cases e
theorem getS_ok (r : HR g F ι h H) {d : D} {v : V} {ds : List D} (e : getS h d = some ds) (rv : VR g F ι d v) : ∃ a vs, v = .ref a ∧ (SqL g.K H a vs ∨ SqT g.K H a vs) ∧ VRs g F ι ds vs := by
  have lst : getL h d = some ds → ∃ a vs, v = .ref a ∧ (SqL g.K H a vs ∨ SqT g.K H a vs) ∧ VRs g F ι ds vs := fun e => by
    obtain ⟨a, vs, q1, q2, q3⟩ := getL_ok r e rv
    exact ⟨a, vs, q1, .inl q2, q3⟩
  cases d with
  | tup es =>
    cases e
    simp only [VR] at rv
    obtain ⟨a, vs, rfl, t, q⟩ := rv
    rcases t with t | t
    · exact ⟨a, vs, rfl, .inr (SqT.of (std_tup (r.fr _ _ t))), q⟩
    · exact ⟨a, vs, rfl, .inr (t H), q⟩
  | _ => exact lst e
theorem tup_ok (r : HR g F ι h H) {v : V} {ds : List D} (rv : VR g F ι (.tup ds) v) : ∃ a vs, v = .ref a ∧ SqT g.K H a vs ∧ VRs g F ι ds vs := by
  simp only [VR] at rv
  obtain ⟨a, vs, rfl, t, q⟩ := rv
  rcases t with t | t
  · exact ⟨a, vs, rfl, (SqT.of (std_tup (r.fr _ _ t))), q⟩
  · exact ⟨a, vs, rfl, (t H), q⟩
theorem getI_ok (r : HR g F ι h H) {d : D} {v : V} {c : Nat} {fs : List (Str × D)} (e : getI h d = some (c, fs)) (rv : VR g F ι d v) : ∃ a dx ws, v = .ref a ∧ H a = some (.ins (g.cls c) dx ws) ∧ VRf g F ι fs ws := by
  cases d with
  | obj c fs =>
    cases e
    simp only [VR] at rv
    obtain ⟨a, dx, vs, rfl, t, q⟩ := rv
    exact ⟨a, dx, vs, rfl, std_ins (r.fr _ _ t), q⟩
  | ref n =>
    simp only [VR] at rv
    obtain ⟨a, rfl, t⟩ := rv
    simp only [getI] at e
    split at e
    · rename_i es q
      cases e
      obtain ⟨b, x, q1, q2, ⟨dx, vs, rfl, q3⟩, _⟩ := r.hp n _ q
      rw [t] at q1
      cases q1
      exact ⟨a, dx, vs, rfl, q2, q3⟩
    · cases e
  | _ => cases e
theorem VRs.length : ∀ {ds : List D} {vs : List V}, VRs g F ι ds vs → vs.length = ds.length
  | [], vs, r => by simp only [VRs] at r; subst r; rfl
  | d :: ds, vs, r => by
    simp only [VRs] at r
    obtain ⟨v, ws, rfl, _, q⟩ := r
    simp [VRs.length q]
theorem VRs.get : ∀ {ds : List D} {vs : List V} {i : Nat} {d : D}, VRs g F ι ds vs → ds[i]? = some d → ∃ v, vs[i]? = some v ∧ VR g F ι d v
  | [], _, _, _, _, e => by simp at e
  | d :: ds, vs, i, x, r, e => by
    simp only [VRs] at r
    obtain ⟨v, ws, rfl, q, r⟩ := r
    cases i with
    | zero => simp at e; subst e; exact ⟨v, rfl, q⟩
    | succ i => simpa using VRs.get (i := i) r (by simpa using e)
theorem VRs.append : ∀ {ds es : List D} {vs ws : List V}, VRs g F ι ds vs → VRs g F ι es ws → VRs g F ι (ds ++ es) (vs ++ ws)
  | [], _, _, _, r, q => by simp only [VRs] at r; subst r; exact q
  | d :: ds, es, vs, ws, r, q => by
    simp only [VRs] at r
    obtain ⟨v, us, rfl, r1, r2⟩ := r
    simp only [List.cons_append, VRs]
    exact ⟨v, us ++ ws, rfl, r1, VRs.append r2 q⟩
theorem VRs.one {d : D} {v : V} (r : VR g F ι d v) : VRs g F ι [d] [v] := by simp only [VRs]; exact ⟨v, [], rfl, r, rfl⟩
theorem VRs.set : ∀ {ds : List D} {vs : List V} {i : Nat} {d : D} {v : V}, VRs g F ι ds vs → VR g F ι d v → VRs g F ι (ds.set i d) (vs.set i v)
  | [], vs, _, _, _, r, _ => by simp only [VRs] at r; subst r; simp [VRs]
  | d :: ds, vs, i, x, y, r, q => by
    simp only [VRs] at r
    obtain ⟨v, ws, rfl, q', r⟩ := r
    cases i with
    | zero => simp only [List.set_cons_zero, VRs]; exact ⟨y, ws, rfl, q, r⟩
    | succ i => simp only [List.set_cons_succ, VRs]; exact ⟨v, _, rfl, q', VRs.set r q⟩
theorem VRs.take : ∀ {ds : List D} {vs : List V} (n : Nat), VRs g F ι ds vs → VRs g F ι (ds.take n) (vs.take n)
  | [], vs, n, r => by simp only [VRs] at r; subst r; simp [VRs]
  | d :: ds, vs, 0, r => by simp [VRs]
  | d :: ds, vs, n + 1, r => by
    simp only [VRs] at r
    obtain ⟨v, ws, rfl, q', r⟩ := r
    simp only [List.take_succ_cons, VRs]
    exact ⟨v, _, rfl, q', VRs.take n r⟩
theorem VRs.drop : ∀ {ds : List D} {vs : List V} (n : Nat), VRs g F ι ds vs → VRs g F ι (ds.drop n) (vs.drop n)
  | [], vs, n, r => by simp only [VRs] at r; subst r; simp [VRs]
  | d :: ds, vs, 0, r => by simpa using r
  | d :: ds, vs, n + 1, r => by
    simp only [VRs] at r
    obtain ⟨v, ws, rfl, q', r⟩ := r
    simpa using VRs.drop n r
theorem VRs.rev : ∀ {ds : List D} {vs : List V}, VRs g F ι ds vs → VRs g F ι ds.reverse vs.reverse
  | [], vs, r => by simp only [VRs] at r; subst r; simp [VRs]
  | d :: ds, vs, r => by
    simp only [VRs] at r
    obtain ⟨v, ws, rfl, q', r⟩ := r
    simp only [List.reverse_cons]
    exact VRs.append (VRs.rev r) (VRs.one q')
theorem VRf.look : ∀ {fs : List (Str × D)} {ws : List (Str × V)} {f : Str}, VRf g F ι fs ws → (∀ d, fs.lookup f = some d → ∃ v, ws.lookup f = some v ∧ VR g F ι d v) ∧ (fs.lookup f = none → ws.lookup f = none)
  | [], ws, f, r => by simp only [VRf] at r; subst r; simp
  | (k, d) :: fs, ws, f, r => by
    simp only [VRf] at r
    obtain ⟨v, us, rfl, q, r⟩ := r
    by_cases e : (f == k) = true
    · simp only [List.lookup_cons, e, if_true, reduceCtorEq, false_implies, and_true]
      rintro _ ⟨⟩
      exact ⟨v, rfl, q⟩
    · have e' : (f == k) = false := by simpa using e
      simp only [List.lookup_cons, e']
      exact VRf.look r
theorem VRf.length : ∀ {ds : List (Str × D)} {vs : List (Str × V)}, VRf g F ι ds vs → vs.length = ds.length
  | [], vs, r => by simp only [VRf] at r; subst r; rfl
  | (_, d) :: ds, vs, r => by
    simp only [VRf] at r
    obtain ⟨v, ws, rfl, _, q⟩ := r
    simp [VRf.length q]
end

/-! ### simple expressions -/
section
variable {X : Cx} {g : G} {W : WX} {e a b : Expr} {es : List Expr} {pos : Pos} {m ma mb : ME}
def mVar (i : Nat) : ME := fun σ h => match σ[i]? with | some (some d) => .ok d h | _ => .stuck
def mC (d : D) : ME := fun _ h => .ok d h
theorem em_var {i : Nat} {x : Str} (hN : X.N[i]? = some x) (hv : Vis X.env.scope x) (hd : (x == ("__debug__" : Str)) = false := by decide) (hcd : (x == ("__classdict__" : Str)) = false := by decide) :
    PE X (.Name x pos) (tE g W (mVar i)) := by
  refine PE_weak (pe_var hN hv hd hcd) ?_
  rintro σv H Q ⟨F, ι, σ, h, hr, lr, p⟩
  unfold mVar at p
  split at p
  · rename_i d e
    obtain ⟨v, ev, rv⟩ := lr.2 i d e
    exact ⟨v, ev, p F ι H v .refl hr rv⟩
  · exact p.elim
theorem em_c {v : V} {d : D} (h : PE X e (tC v)) (hv : ∀ F ι, VR g F ι d v) : PE X e (tE g W (mC d)) := by
  refine PE_weak h ?_
  rintro σv H Q ⟨F, ι, σ, h, hr, lr, p⟩
  exact p F ι H v .refl hr (hv F ι)
theorem em_int {i : Int} {j} : PE X (.Constant (.int i) j pos) (tE g W (mC (.int i))) := em_c pe_int fun _ _ => by simp [VR]
theorem em_bl {i : Bool} {j} : PE X (.Constant (.bool i) j pos) (tE g W (mC (.bl i))) := em_c pe_bl fun _ _ => by simp [VR]
theorem em_non {j} : PE X (.Constant .none j pos) (tE g W (mC .non)) := em_c pe_non fun _ _ => by simp [VR]
theorem em_str {x : Str} {j} : PE X (.Constant (.str x) j pos) (tE g W (mC (.str x))) := em_c pe_str fun _ _ => by simp [VR]

/-- an operation by values -/
def OpOk (g : G) (r : R2) (f : D → D → AH → Rv D) : Prop :=
  ∀ (W : WX) (F : Kn) (ι : List Addr) (h : AH) (H : Hp) (σv : L2.St) (d1 d2 : D) (v1 v2 : V) (Q : VK), HR g F ι h H → VR g F ι d1 v1 → VR g F ι d2 v2 → Post g W F ι σv (VR g) (f d1 d2 h) Q → r v1 v2 H Q
end
end DV
end
section
set_option Elab.async false
set_option linter.all false
set_option maxRecDepth 100000
set_option maxHeartbeats 2000000
namespace DV
open PySem L2

section
variable {X : Cx} {g : G} {W : WX} {e a b c : Expr} {es : List Expr} {pos : Pos} {m ma mb mc : ME}
def mOp (f : D → D → AH → Rv D) (ma mb : ME) : ME := fun σ h => bindR (ma σ h) fun x h1 => bindR (mb σ h1) fun y h2 => f x y h2
theorem tOp_weak {r : R2} {f : D → D → AH → Rv D} (hk : OpOk g r f) : ∀ σv H Q, tE g W (mOp f ma mb) σv H Q → tOp r (tE g W ma) (tE g W mb) σv H Q := by
  rintro σv H Q ⟨F, ι, σ, h, hr, lr, p⟩
  refine tM_bind (f := fun σ x h1 => bindR (mb σ h1) fun y h2 => f x y h2) hr lr p fun F1 ι1 H1 x h1 v l hr1 lr1 r1 p1 => ?_
  refine tM_bind (f := fun σ y h2 => f x y h2) hr1 lr1 p1 fun F2 ι2 H2 y h2 u l2 hr2 lr2 r2 p2 => ?_
  exact hk W F2 ι2 h2 H2 σv x y v u Q hr2 (VR.mono l2 _ _ r1) r2 p2
theorem em_op {op : Operator} {r : R2} {f : D → D → AH → Rv D} (ho : OpR X (binaryOp op) r) (hk : OpOk g r f) (ha : PE X a (tE g W ma)) (hb : PE X b (tE g W mb)) : PE X (.BinOp a op b pos) (tE g W (mOp f ma mb)) :=
  PE_weak (pe_op ho ha hb) (tOp_weak hk)
theorem em_cmp {op : CmpOp} {r : R2} {f : D → D → AH → Rv D} (ho : OpR X (compareOp op) r) (hk : OpOk g r f) (ha : PE X a (tE g W ma)) (hb : PE X b (tE g W mb)) (hm : behindInMarks op b = false) : PE X (.Compare a [op] [b] pos) (tE g W (mOp f ma mb)) :=
  PE_weak (pe_cmpR ho ha hb hm) (tOp_weak hk)
theorem em_ix {r : R2} {f : D → D → AH → Rv D} (ho : IxR X r) (hk : OpOk g r f) (ha : PE X a (tE g W ma)) (hb : PE X b (tE g W mb)) (hs : PlainIx b) : PE X (.Subscript a b pos) (tE g W (mOp f ma mb)) :=
  PE_weak (pe_ix ho ha hb hs) (tOp_weak hk)

/-- a value as a truth -/
def asB (d : D) (h : AH) : Rv Bool := match d with | .bl b => .ok b h | _ => .stuck
def mTB (m : ME) : MT := fun σ h => bindR (m σ h) asB
theorem tTest_weak : ∀ σv H Q, tT g W (mTB m) σv H Q → tTest (tE g W m) σv H Q := by
  rintro σv H Q ⟨F, ι, σ, h, hr, lr, p⟩
  refine tM_bind (f := fun _ => asB) hr lr p fun F1 ι1 H1 x h1 v l hr1 lr1 r1 p1 => ?_
  cases x with
  | bl k =>
    simp only [VR] at r1
    exact ⟨k, r1, p1 F1 ι1 H1 k .refl hr1 rfl⟩
  | _ => exact p1.elim
/-- an expression's reading as a test's -/
theorem test_weak {t : TE} (k : ∀ σ H Q, tE g W m σ H Q → t σ H Q) : ∀ σv H Q, tT g W (mTB m) σv H Q → tTest t σv H Q := by
  rintro σv H Q ⟨F, ι, σ, h, hr, lr, p⟩
  refine k _ _ _ (tM_bind (f := fun _ => asB) (m := m) hr lr p fun F1 ι1 H1 x h1 v l hr1 lr1 r1 p1 => ?_)
  cases x with
  | bl k =>
    simp only [VR] at r1
    exact ⟨k, r1, p1 F1 ι1 H1 k .refl hr1 rfl⟩
  | _ => exact p1.elim
theorem em_tcmp {op : CmpOp} {r : R2} {f : D → D → AH → Rv D} (ho : OpR X (compareOp op) r) (hk : OpOk g r f) (ha : PE X a (tE g W ma)) (hb : PE X b (tE g W mb)) (hm : behindInMarks op b = false) : PT X (.Compare a [op] [b] pos) (tT g W (mTB (mOp f ma mb))) := by
  exact PT_weak (pt_cmpR ho ha hb hm) (test_weak (tOp_weak hk))
/-- a < b < c -/
def mChain (f f' : D → D → AH → Rv D) (ma mb mc : ME) : ME := fun σ h => bindR (ma σ h) fun x h1 => bindR (mb σ h1) fun y h2 => bindR (f x y h2) fun z h3 => bindR (asB z h3) fun k h4 => if k = true then bindR (mc σ h4) fun w h5 => f' y w h5 else .ok (.bl false) h4
theorem Post_bind {α β α' β' : Type} {F : Kn} {ι : List Addr} {σ : AS} {σv : L2.St} {rel : Kn → List Addr → α → β → Prop} {rel' : Kn → List Addr → α' → β' → Prop} {r : Rv α} {f : α → AH → Rv α'}
    {Q : β → Hp → Prop} {Q' : β' → Hp → Prop} (lr : LR g F ι σ σv) (p : Post g W F ι σv rel' (bindR r f) Q')
    (k : ∀ F1 ι1 H1 a h1 v, Le F ι F1 ι1 → HR g F1 ι1 h1 H1 → LR g F1 ι1 σ σv → rel F1 ι1 a v → Post g W F1 ι1 σv rel' (f a h1) Q' → Q v H1) : Post g W F ι σv rel r Q := by
  cases r with
  | ok a h1 => exact fun F1 ι1 H1 v l hr1 r1 => k F1 ι1 H1 a h1 v l hr1 (lr.mono l) r1 (p.le l)
  | exc c h1 => exact p
  | stuck => exact p
theorem asB_ok {F : Kn} {ι : List Addr} {h : AH} {σv : L2.St} {β : Type} {rel : Kn → List Addr → D → β → Prop} {x : D} {v : V} {f : Bool → AH → Rv D} {Q : β → Hp → Prop} (r : VR g F ι x v) (p : Post g W F ι σv rel (bindR (asB x h) f) Q) : ∃ k, v = .bl k ∧ x = .bl k ∧ Post g W F ι σv rel (f k h) Q := by
  cases x with
  | bl k =>
    simp only [VR] at r
    exact ⟨k, r, rfl, p⟩
  | _ => exact p.elim
theorem tChain_weak {r r' : R2} {f f' : D → D → AH → Rv D} (hk : OpOk g r f) (hk' : OpOk g r' f') : ∀ σv H Q, tE g W (mChain f f' ma mb mc) σv H Q → tChain r r' (tE g W ma) (tE g W mb) (tE g W mc) σv H Q := by
  rintro σv H Q ⟨F, ι, σ, h, hr, lr, p⟩
  refine tM_bind (f := fun σ x h1 => bindR (mb σ h1) fun y h2 => bindR (f x y h2) fun z h3 => bindR (asB z h3) fun k h4 => if k = true then bindR (mc σ h4) fun w h5 => f' y w h5 else .ok (.bl false) h4) hr lr p fun F1 ι1 H1 x h1 v l hr1 lr1 r1 p1 => ?_
  refine tM_bind (f := fun σ y h2 => bindR (f x y h2) fun z h3 => bindR (asB z h3) fun k h4 => if k = true then bindR (mc σ h4) fun w h5 => f' y w h5 else .ok (.bl false) h4) hr1 lr1 p1 fun F2 ι2 H2 y h2 u l2 hr2 lr2 r2 p2 => ?_
  refine hk W F2 ι2 h2 H2 σv x y v u _ hr2 (VR.mono l2 _ _ r1) r2 (Post_bind lr2 p2 fun F3 ι3 H3 z h3 w l3 hr3 lr3 r3 p3 => ?_)
  obtain ⟨k, e1, e2, p4⟩ := asB_ok r3 p3
  refine ⟨k, e1, ?_⟩
  by_cases hb : k = true
  · rw [if_pos hb] at p4 ⊢
    refine tM_bind (f := fun σ w h5 => f' y w h5) hr3 lr3 p4 fun F5 ι5 H5 w' h5 u' l5 hr5 lr5 r5 p5 => ?_
    exact hk' W F5 ι5 h5 H5 σv y w' u u' Q hr5 (VR.mono (l3.trans l5) _ _ r2) r5 p5
  · rw [if_neg hb] at p4 ⊢
    exact p4 F3 ι3 H3 (.bl false) .refl hr3 (by simp [VR])
theorem em_chain {op op' : CmpOp} {r r' : R2} {f f' : D → D → AH → Rv D} (ho : OpR X (compareOp op) r) (ho' : OpR X (compareOp op') r') (hk : OpOk g r f) (hk' : OpOk g r' f') (ha : PE X a (tE g W ma)) (hb : PE X b (tE g W mb)) (hc : PE X c (tE g W mc))
    (hm : lastMarks [op, op'] [b, c] = false) : PE X (.Compare a [op, op'] [b, c] pos) (tE g W (mChain f f' ma mb mc)) := PE_weak (pe_chain ho ho' ha hb hc hm) (tChain_weak hk hk')
theorem em_tchain {op op' : CmpOp} {r r' : R2} {f f' : D → D → AH → Rv D} (ho : OpR X (compareOp op) r) (ho' : OpR X (compareOp op') r') (hk : OpOk g r f) (hk' : OpOk g r' f') (ha : PE X a (tE g W ma)) (hb : PE X b (tE g W mb)) (hc : PE X c (tE g W mc))
    (hm : lastMarks [op, op'] [b, c] = false) : PT X (.Compare a [op, op'] [b, c] pos) (tT g W (mTB (mChain f f' ma mb mc))) := PT_weak (pt_chain ho ho' ha hb hc hm) (test_weak (tChain_weak hk hk'))
end
end DV
end
section
set_option Elab.async false
set_option linter.all false
set_option maxRecDepth 100000
set_option maxHeartbeats 2000000
namespace DV
open PySem L2 PyProof.Rows

/-! ### new things -/
def mkL (mu : Bool) (ds : List D) (h : AH) : Rv D := if mu then .ok (.ref h.length) (h ++ [some (.lst ds)]) else .ok (.lst ds) h
section
variable {g : G} {W : WX} {F : Kn} {ι : List Addr} {h : AH} {H : Hp} {σv : L2.St} {Q : VK}
theorem mkL_ok (t : TiOk g) {mu : Bool} {ds : List D} {vs : List V} (hr : HR g F ι h H) (rv : VRs g F ι ds vs) (p : Post g W F ι σv (VR g) (mkL mu ds h) Q) : ∀ l, H l = none → Q (.ref l) (upd H l (.lst vs)) := by
  intro l hl
  unfold mkL at p
  cases mu with
  | true =>
    obtain ⟨hr', l'⟩ := hr.newO t hl (o := .lst ds) (x := .lst vs) ⟨vs, rfl, rv⟩
    exact p F _ _ (.ref l) l' hr' (by simp only [VR]; exact ⟨l, rfl, by rw [← hr.len]; simp⟩)
  | false =>
    obtain ⟨hr', l'⟩ := hr.newF t hl (.lst vs)
    exact p _ _ _ (.ref l) l' hr' (by simp only [VR]; exact ⟨l, vs, rfl, add_same, VRs.mono l' _ _ rv⟩)
theorem mkT_ok (t : TiOk g) {ds : List D} {vs : List V} (hr : HR g F ι h H) (rv : VRs g F ι ds vs) (p : Post g W F ι σv (VR g) (.ok (.tup ds) h) Q) : ∀ l, H l = none → Q (.ref l) (upd H l (.tup vs)) := by
  intro l hl
  obtain ⟨hr', l'⟩ := hr.newF t hl (.tup vs)
  exact p _ _ _ (.ref l) l' hr' (by simp only [VR]; exact ⟨l, vs, rfl, .inl add_same, VRs.mono l' _ _ rv⟩)
/-- a plain answer -/
theorem fin {d : D} {v : V} (p : Post g W F ι σv (VR g) (.ok d h) Q) (hr : HR g F ι h H) (rv : VR g F ι d v) : Q v H := p F ι H v .refl hr rv
theorem fini {i : Int} (p : Post g W F ι σv (VR g) (.ok (.int i) h) Q) (hr : HR g F ι h H) : Q (.int i) H := fin p hr (by simp [VR])
theorem finb {b : Bool} (p : Post g W F ι σv (VR g) (.ok (.bl b) h) Q) (hr : HR g F ι h H) : Q (.bl b) H := fin p hr (by simp [VR])
theorem fins {b : Str} (p : Post g W F ι σv (VR g) (.ok (.str b) h) Q) (hr : HR g F ι h H) : Q (.str b) H := fin p hr (by simp [VR])
theorem VR.int' {i : Int} {v : V} (r : VR g F ι (.int i) v) : v = .int i := by simpa only [VR] using r
theorem VR.bl' {i : Bool} {v : V} (r : VR g F ι (.bl i) v) : v = .bl i := by simpa only [VR] using r
theorem VR.str' {i : Str} {v : V} (r : VR g F ι (.str i) v) : v = .str i := by simpa only [VR] using r
theorem VR.non' {v : V} (r : VR g F ι .non v) : v = .non := by simpa only [VR] using r
end

/-! ### operators -/
def okIf (c : Prop) [Decidable c] (r : Rv D) : Rv D := if c then r else .stuck
theorem okIf_post {g : G} {W : WX} {F : Kn} {ι : List Addr} {σv : L2.St} {Q : VK} {c : Prop} [Decidable c] {r : Rv D} (p : Post g W F ι σv (VR g) (okIf c r) Q) : c ∧ Post g W F ι σv (VR g) r Q := by
  unfold okIf at p
  by_cases hc : c
  · rw [if_pos hc] at p; exact ⟨hc, p⟩
  · rw [if_neg hc] at p; exact p.elim
def dCat (mu : Bool) (a b : D) (h : AH) : Rv D :=
  match getLs h a, getLs h b with
  | some xs, some ys => okIf (xs.length + ys.length ≤ sizeLine) (mkL mu (xs ++ ys) h)
  | _, _ => .stuck
def dPlus (mu : Bool) (a b : D) (h : AH) : Rv D :=
  match a, b with
  | .int i, .int j => .ok (.int (i + j)) h
  | .int i, .bl k => .ok (.int (i + b2i k)) h
  | .str x, .str y => okIf (x.length + y.length ≤ sizeLine) (.ok (.str (x ++ y)) h)
  | .tup xs, .tup ys => okIf (xs.length + ys.length ≤ sizeLine) (.ok (.tup (xs ++ ys)) h)
  | a, b => dCat mu a b h
def rCatL (K : PySem.W.Frag) : R2 := fun x y H Q => ∃ l b xs zs, x = .ref l ∧ y = .ref b ∧ SqL K H l xs ∧ SqL K H b zs ∧ xs.length + zs.length ≤ sizeLine ∧ ∀ p, H p = none → Q (.ref p) (upd H p (.lst (xs ++ zs)))
section
variable {X : Cx} {g : G}
def rPlus (K : PySem.W.Frag) : R2 := fun x y H Q => rI0 (fun i j => .int (i + j)) x y H Q ∨ (∃ i k, x = .int i ∧ y = .bl k ∧ Q (.int (i + b2i k)) H) ∨
  (∃ i j, x = .str i ∧ y = .str j ∧ i.length + j.length ≤ sizeLine ∧ Q (.str (i ++ j)) H) ∨ rCatA K x y H Q ∨ rCat x y H Q
theorem op_plus : OpR X (binaryOp .Add) (rPlus X.K) := op_add.or (op_add_ib.or (op_add_str.or (op_catA.or op_cat)))
theorem getL_lst {F : Kn} {ι : List Addr} {h : AH} {H : Hp} (r : HR g F ι h H) {d : D} {v : V} {ds : List D} (e : getLs h d = some ds) (rv : VR g F ι d v) : ∃ a vs, v = .ref a ∧ (H a = some (.lst vs)) ∧ VRs g F ι ds vs := by
  cases d with
  | lst es =>
    cases e
    simp only [VR] at rv
    obtain ⟨a, vs, rfl, t, q⟩ := rv
    exact ⟨a, vs, rfl, std_lst (r.fr _ _ t), q⟩
  | ref n =>
    simp only [VR] at rv
    obtain ⟨a, rfl, t⟩ := rv
    simp only [getLs] at e
    split at e
    · rename_i es q
      cases e
      obtain ⟨b, x, q1, q2, ⟨vs, rfl, q3⟩, _⟩ := r.hp n _ q
      rw [t] at q1
      cases q1
      exact ⟨a, vs, rfl, q2, q3⟩
    · cases e
  | _ => cases e
theorem ok_plus (t : TiOk g) (mu : Bool) : OpOk g (rPlus g.K) (dPlus mu) := by
  intro W F ι h H σv a b v u Q hr ra rb p
  have cat : dPlus mu a b h = dCat mu a b h → rPlus g.K v u H Q := fun e => by
    rw [e] at p
    unfold dCat at p
    split at p
    · rename_i xs ys e1 e2
      obtain ⟨l, vs, rfl, q1, q2⟩ := getL_lst hr e1 ra
      obtain ⟨m, ws, rfl, q3, q4⟩ := getL_lst hr e2 rb
      obtain ⟨hz, p⟩ := okIf_post p
      have z := mkL_ok t hr (q2.append q4) p
      exact .inr (.inr (.inr (.inr ⟨l, m, vs, ws, rfl, rfl, q1, q3, by rw [q2.length, q4.length]; exact hz, z⟩)))
    · exact p.elim
  unfold dPlus at p cat
  split at p
  · cases ra.int'; cases rb.int'
    exact .inl ⟨_, _, rfl, rfl, fini p hr⟩
  · cases ra.int'; cases rb.bl'
    exact .inr (.inl ⟨_, _, rfl, rfl, fini p hr⟩)
  · cases ra.str'; cases rb.str'
    obtain ⟨hz, p⟩ := okIf_post p
    exact .inr (.inr (.inl ⟨_, _, rfl, rfl, hz, fins p hr⟩))
  · rename_i xs ys
    obtain ⟨hz, p⟩ := okIf_post p
    obtain ⟨a1, vs, rfl, q1, q2⟩ := tup_ok hr ra
    obtain ⟨a2, ws, rfl, q3, q4⟩ := tup_ok hr rb
    refine .inr (.inr (.inr (.inl ⟨a1, a2, vs, ws, rfl, rfl, q1, q3, by rw [q2.length, q4.length]; exact hz, ?_, ?_, ?_⟩)))
    · intro en
      have e0 : xs = [] := List.eq_nil_of_length_eq_zero (by rw [← q2.length, en]; rfl)
      subst e0
      exact fin p hr rb
    · intro _ en
      have e0 : ys = [] := List.eq_nil_of_length_eq_zero (by rw [← q4.length, en]; rfl)
      subst e0
      rw [List.append_nil] at p
      exact fin p hr ra
    · intro _ _
      exact mkT_ok t hr (q2.append q4) p
  · exact cat (by split <;> first | rfl | (rename_i h1 h2 h3 h4; simp_all))

/-- a op b of two ints -/
def dInt (C : Int → Int → Prop) [∀ i j, Decidable (C i j)] (f : Int → Int → D) (a b : D) (h : AH) : Rv D :=
  match a, b with
  | .int i, .int j => okIf (C i j) (.ok (f i j) h)
  | _, _ => .stuck
theorem ok_int {C : Int → Int → Prop} [∀ i j, Decidable (C i j)] {C' : Int → Int → Prop} {f : Int → Int → D} {f' : Int → Int → V} (hC : ∀ i j, C i j → C' i j) (hf : ∀ g F ι i j, C i j → VR g F ι (f i j) (f' i j)) : OpOk g (rI C' f') (dInt C f) := by
  intro W F ι h H σv a b v u Q hr ra rb p
  unfold dInt at p
  split at p
  · cases ra.int'; cases rb.int'
    obtain ⟨hz, p⟩ := okIf_post p
    exact ⟨_, _, rfl, rfl, hC _ _ hz, fin p hr (hf _ _ _ _ _ hz)⟩
  · exact p.elim
theorem ok_int0 {f : Int → Int → D} {f' : Int → Int → V} (hf : ∀ g F ι i j, VR g F ι (f i j) (f' i j)) : OpOk g (rI0 f') (dInt (fun _ _ => True) f) := by
  intro W F ι h H σv a b v u Q hr ra rb p
  unfold dInt at p
  split at p
  · cases ra.int'; cases rb.int'
    obtain ⟨hz, p⟩ := okIf_post p
    exact ⟨_, _, rfl, rfl, fin p hr (hf _ _ _ _ _)⟩
  · exact p.elim
def dMinus : D → D → AH → Rv D := dInt (fun _ _ => True) fun i j => .int (i - j)
theorem ok_minus : OpOk g (rI0 fun i j => .int (i - j)) dMinus := ok_int0 fun _ _ _ _ _ => by simp [VR]
instance (i j : Int) : Decidable (CMul i j) := by unfold CMul; exact inferInstance
instance (i j : Int) : Decidable (CDiv i j) := by unfold CDiv; exact inferInstance
instance (i j : Int) : Decidable (CPow i j) := by unfold CPow; exact inferInstance
def dDiv : D → D → AH → Rv D := dInt CDiv fun i j => .int (i / j)
theorem ok_div : OpOk g (rI CDiv fun i j => .int (i / j)) dDiv := ok_int (fun _ _ h => h) fun _ _ _ _ _ _ => by simp [VR]
def dMod : D → D → AH → Rv D := dInt (fun _ j => 0 < j) fun i j => .int (i % j)
theorem ok_mod : OpOk g (rI (fun _ j => 0 < j) fun i j => .int (i % j)) dMod := ok_int (fun _ _ h => h) fun _ _ _ _ _ _ => by simp [VR]
def dPow : D → D → AH → Rv D := dInt CPow fun i j => .int (i ^ j.toNat)
theorem ok_pow : OpOk g (rI CPow fun i j => .int (i ^ j.toNat)) dPow := ok_int (fun _ _ h => h) fun _ _ _ _ _ _ => by simp [VR]
def dMul (mu : Bool) (a b : D) (h : AH) : Rv D :=
  match a, b with
  | .int i, .int j => okIf (CMul i j) (.ok (.int (i * j)) h)
  | a, .int k => match getLs h a with
    | some xs => okIf (-(2 ^ 63) ≤ k ∧ k < 2 ^ 63 ∧ xs.length * k.toNat ≤ sizeLine) (mkL mu (List.replicate k.toNat xs).flatten h)
    | none => .stuck
  | _, _ => .stuck
theorem VRs.reps {F : Kn} {ι : List Addr} {ds : List D} {vs : List V} (r : VRs g F ι ds vs) : ∀ n : Nat, VRs g F ι (List.replicate n ds).flatten (List.replicate n vs).flatten
  | 0 => by simp [VRs]
  | n + 1 => by
    simp only [List.replicate_succ, List.flatten_cons]
    exact r.append (VRs.reps r n)
theorem op_times : OpR X (binaryOp .Mult) (fun x y H Q => rI CMul (fun i j => .int (i * j)) x y H Q ∨ rRep x y H Q) := op_mul.or op_rep
theorem ok_mul (t : TiOk g) (mu : Bool) : OpOk g (fun x y H Q => rI CMul (fun i j => .int (i * j)) x y H Q ∨ rRep x y H Q) (dMul mu) := by
  intro W F ι h H σv a b v u Q hr ra rb p
  unfold dMul at p
  split at p
  · cases ra.int'; cases rb.int'
    obtain ⟨hz, p⟩ := okIf_post p
    exact .inl ⟨_, _, rfl, rfl, hz, fini p hr⟩
  · split at p
    · rename_i xs e
      obtain ⟨⟨z1, z2, z3⟩, p⟩ := okIf_post p
      obtain ⟨l, vs, rfl, q1, q2⟩ := getL_lst hr e ra
      cases rb.int'
      exact .inr ⟨l, _, vs, rfl, rfl, q1, z1, z2, by rw [q2.length]; exact z3, mkL_ok t hr (q2.reps _) p⟩
    · exact p.elim
  · exact p.elim
/-! comparisons -/
def dLt : D → D → AH → Rv D := dInt (fun _ _ => True) fun i j => .bl (decide (i < j))
def dLe : D → D → AH → Rv D := dInt (fun _ _ => True) fun i j => .bl (decide (i ≤ j))
def dGt : D → D → AH → Rv D := dInt (fun _ _ => True) fun i j => .bl (decide (j < i))
def dGe : D → D → AH → Rv D := dInt (fun _ _ => True) fun i j => .bl (decide (j ≤ i))
theorem ok_lt : OpOk g (rI0 fun i j => .bl (decide (i < j))) dLt := ok_int0 fun _ _ _ _ _ => by simp [VR]
theorem ok_le : OpOk g (rI0 fun i j => .bl (decide (i ≤ j))) dLe := ok_int0 fun _ _ _ _ _ => by simp [VR]
theorem ok_gt : OpOk g (rI0 fun i j => .bl (decide (j < i))) dGt := ok_int0 fun _ _ _ _ _ => by simp [VR]
theorem ok_ge : OpOk g (rI0 fun i j => .bl (decide (j ≤ i))) dGe := ok_int0 fun _ _ _ _ _ => by simp [VR]
def isN : D → Bool | .non => true | _ => false
theorem isN_ok {F : Kn} {ι : List Addr} {d : D} {v : V} (r : VR g F ι d v) : decide (v = .non) = isN d := by
  cases d with
  | non => cases r.non'; rfl
  | bl b => cases r.bl'; rfl
  | int b => cases r.int'; rfl
  | str b => cases r.str'; rfl
  | tup ds => simp only [VR] at r; obtain ⟨a, vs, rfl, _⟩ := r; rfl
  | lst ds => simp only [VR] at r; obtain ⟨a, vs, rfl, _⟩ := r; rfl
  | dct ds => simp only [VR] at r; obtain ⟨a, vs, rfl, _⟩ := r; rfl
  | obj c ds => simp only [VR] at r; obtain ⟨a, dx, vs, rfl, _⟩ := r; rfl
  | ref n => simp only [VR] at r; obtain ⟨a, rfl, _⟩ := r; rfl
  | clo n => simp only [VR] at r; obtain ⟨a, o, c, u, rfl, _⟩ := r; rfl
  | scr n => simp only [VR] at r; obtain ⟨a, rfl, _⟩ := r; rfl
def dIsN (a b : D) (h : AH) : Rv D := match b with | .non => .ok (.bl (isN a)) h | _ => .stuck
def dNotN (a b : D) (h : AH) : Rv D := match b with | .non => .ok (.bl (!isN a)) h | _ => .stuck
theorem ok_isN : OpOk g (fun x y H Q => y = .non ∧ Q (.bl (decide (x = .non))) H) dIsN := by
  intro W F ι h H σv a b v u Q hr ra rb p
  unfold dIsN at p
  split at p
  · exact ⟨rb.non', by rw [isN_ok ra]; exact finb p hr⟩
  · exact p.elim
theorem ok_notN : OpOk g (fun x y H Q => y = .non ∧ Q (.bl (!decide (x = .non))) H) dNotN := by
  intro W F ι h H σv a b v u Q hr ra rb p
  unfold dNotN at p
  split at p
  · exact ⟨rb.non', by rw [isN_ok ra]; exact finb p hr⟩
  · exact p.elim
/-! truth -/
def getKm (h : AH) : D → Option (List (Key × D))
  | .ref n => match h[n]? with | some (some (.dct ds)) => some ds | _ => none
  | _ => none
def truD (d : D) (h : AH) : Rv Bool :=
  match d with
  | .non => .ok false h
  | .bl b => .ok b h
  | .int i => .ok (i != 0) h
  | .str y => if y.length ≤ sizeLine then .ok ((y.length : Int) != 0) h else .stuck
  | d => match getS h d with
    | some xs => .ok (!xs.isEmpty) h
    | none => match getKm h d with
      | some ks => .ok (!ks.isEmpty) h
      | none => .stuck
theorem VRk.length {F : Kn} {ι : List Addr} : ∀ {ds : List (Key × D)} {vs : List (Key × V)}, VRk g F ι ds vs → vs.length = ds.length
  | [], vs, r => by simp only [VRk] at r; subst r; rfl
  | (_, d) :: ds, vs, r => by
    simp only [VRk] at r
    obtain ⟨v, ws, rfl, _, q⟩ := r
    simp [VRk.length q]
theorem empty_of {α β : Type} {xs : List α} {ys : List β} (e : xs.length = ys.length) : xs.isEmpty = ys.isEmpty := by
  cases xs <;> cases ys <;> simp_all
theorem getKm_ok {F : Kn} {ι : List Addr} {h : AH} {H : Hp} (r : HR g F ι h H) {d : D} {v : V} {ds : List (Key × D)} (e : getKm h d = some ds) (rv : VR g F ι d v) : ∃ a n vs, d = .ref n ∧ v = .ref a ∧ ι[n]? = some a ∧ h[n]? = some (some (.dct ds)) ∧ H a = some (.dK vs) ∧ VRk g F ι ds vs := by
  cases d with
  | ref n =>
    simp only [VR] at rv
    obtain ⟨a, rfl, t⟩ := rv
    simp only [getKm] at e
    split at e
    · rename_i es q
      cases e
      obtain ⟨b, x, q1, q2, ⟨vs, rfl, q3⟩, _⟩ := r.hp n _ q
      rw [t] at q1
      cases q1
      exact ⟨a, n, vs, rfl, rfl, t, q, q2, q3⟩
    · cases e
  | _ => cases e
theorem tru_D {F : Kn} {ι : List Addr} {h : AH} {H : Hp} {W : WX} {σv : L2.St} {β γ : Type} {rel : Kn → List Addr → β → γ → Prop} {Q : γ → Hp → Prop} {d : D} {v : V} {f : Bool → AH → Rv β} (hr : HR g F ι h H) (rv : VR g F ι d v) (p : Post g W F ι σv rel (bindR (truD d h) f) Q) :
    ∃ k, TruV g.K v H k ∧ Post g W F ι σv rel (f k h) Q := by
  have big : (bindR (match getS h d with
    | some xs => .ok (!xs.isEmpty) h
    | none => match getKm h d with
      | some ks => .ok (!ks.isEmpty) h
      | none => .stuck) f) = bindR (truD d h) f → ∃ k, TruV g.K v H k ∧ Post g W F ι σv rel (f k h) Q := fun e => by
    rw [← e] at p
    split at p
    · rename_i xs e1
      obtain ⟨a, vs, rfl, q1, q2⟩ := getS_ok hr e1 rv
      refine ⟨_, ?_, p⟩
      rw [← empty_of q2.length]
      rcases q1 with q1 | q1
      · exact .inl ⟨vs, q1, rfl⟩
      · exact .inr (.inl ⟨vs, q1, rfl⟩)
    · split at p
      · rename_i ks e1
        obtain ⟨a, n, vs, rfl, rfl, q0, q1, q2, q3⟩ := getKm_ok hr e1 rv
        refine ⟨_, ?_, p⟩
        rw [← empty_of q3.length]
        exact .inr (.inr ⟨vs, q2, rfl⟩)
      · exact p.elim
  cases d with
  | non => cases rv.non'; exact ⟨false, rfl, p⟩
  | bl b => cases rv.bl'; exact ⟨b, rfl, p⟩
  | int i => cases rv.int'; exact ⟨_, rfl, p⟩
  | str y =>
    cases rv.str'
    simp only [truD] at p
    split at p
    · rename_i hz
      exact ⟨_, ⟨hz, rfl⟩, p⟩
    · exact p.elim
  | _ => exact big rfl
end

/-! ### tests, and, or, not, if -/
theorem bindR_ok {α : Type} (r : Rv α) : bindR r (fun a h => .ok a h) = r := by cases r <;> rfl
section
variable {X : Cx} {g : G} {W : WX} {e a b c : Expr} {es rest : List Expr} {pos : Pos} {m ma mb : ME} {t t1 t2 : MT}
def mTru (m : ME) : MT := fun σ h => bindR (m σ h) truD
theorem em_tru (hK : X.K = g.K) (ha : PE X a (tE g W m)) (he : ∀ whole, isTrue a X.env whole = (do let v ← whole; standAt a.pos; holding [v] (truthy v))) : PT X a (tT g W (mTru m)) := by
  refine PT_weak (pt_truth ha he) ?_
  rintro σv H Q ⟨F, ι, σ, h, hr, lr, p⟩
  refine tM_bind (f := fun _ => truD) hr lr p fun F1 ι1 H1 x h1 v l hr1 lr1 r1 p1 => ?_
  rw [← bindR_ok (truD x h1)] at p1
  obtain ⟨k, q1, q2⟩ := tru_D hr1 r1 p1
  exact ⟨k, by rw [hK]; exact q1, q2 F1 ι1 H1 k .refl hr1 rfl⟩
def mAnd (t1 t2 : MT) : MT := fun σ h => bindR (t1 σ h) fun k h1 => if k = true then t2 σ h1 else .ok false h1
def mOr (t1 t2 : MT) : MT := fun σ h => bindR (t1 σ h) fun k h1 => if k = true then .ok true h1 else t2 σ h1
def mNot (t : MT) : MT := fun σ h => bindR (t σ h) fun k h1 => .ok (!k) h1
theorem em_and1 (ha : PT X a (tT g W t)) : PW X (.BoolOp .And [a] pos) (tT g W t) := pw_and1 ha
theorem em_or1 (ha : PT X a (tT g W t)) : PW X (.BoolOp .Or [a] pos) (tT g W t) := pw_or1 ha
theorem em_and (ha : PT X a (tT g W t1)) (hb : PW X (.BoolOp .And (b :: rest) pos) (tT g W t2)) : PW X (.BoolOp .And (a :: b :: rest) pos) (tT g W (mAnd t1 t2)) := by
  refine PW_weak (pw_and ha hb) ?_
  rintro σv H Q ⟨F, ι, σ, h, hr, lr, p⟩
  refine tM_bind (f := fun σ k h1 => if k = true then t2 σ h1 else .ok false h1) hr lr p fun F1 ι1 H1 x h1 v l hr1 lr1 r1 p1 => ?_
  subst r1
  by_cases hk : v = true
  · rw [if_pos hk] at p1 ⊢
    exact ⟨F1, ι1, σ, h1, hr1, lr1, p1⟩
  · rw [if_neg hk] at p1 ⊢
    exact p1 F1 ι1 H1 false .refl hr1 rfl
theorem em_or (ha : PT X a (tT g W t1)) (hb : PW X (.BoolOp .Or (b :: rest) pos) (tT g W t2)) : PW X (.BoolOp .Or (a :: b :: rest) pos) (tT g W (mOr t1 t2)) := by
  refine PW_weak (pw_or ha hb) ?_
  rintro σv H Q ⟨F, ι, σ, h, hr, lr, p⟩
  refine tM_bind (f := fun σ k h1 => if k = true then .ok true h1 else t2 σ h1) hr lr p fun F1 ι1 H1 x h1 v l hr1 lr1 r1 p1 => ?_
  subst r1
  by_cases hk : v = true
  · rw [if_pos hk] at p1 ⊢
    exact p1 F1 ι1 H1 true .refl hr1 rfl
  · rw [if_neg hk] at p1 ⊢
    exact ⟨F1, ι1, σ, h1, hr1, lr1, p1⟩
theorem em_pw (h : PW X e (tT g W t)) : PT X e (tT g W t) := h.pt
theorem em_not (ha : PT X a (tT g W t)) : PT X (.UnaryOp .Not a pos) (tT g W (mNot t)) := by
  refine PT_weak (pt_not ha) ?_
  rintro σv H Q ⟨F, ι, σ, h, hr, lr, p⟩
  refine tM_bind (f := fun σ k h1 => .ok (!k) h1) hr lr p fun F1 ι1 H1 x h1 v l hr1 lr1 r1 p1 => ?_
  subst r1
  exact p1 F1 ι1 H1 _ .refl hr1 rfl
/-! .. as values -/
def mAndV (ma mb : ME) : ME := fun σ h => bindR (ma σ h) fun x h1 => bindR (truD x h1) fun k h2 => if k = true then mb σ h2 else .ok x h2
def mOrV (ma mb : ME) : ME := fun σ h => bindR (ma σ h) fun x h1 => bindR (truD x h1) fun k h2 => if k = true then .ok x h2 else mb σ h2
def mNotV (ma : ME) : ME := fun σ h => bindR (ma σ h) fun x h1 => bindR (truD x h1) fun k h2 => .ok (.bl (!k)) h2
theorem em_oneV {op} (ha : PE X a (tE g W m)) : PE X (.BoolOp op [a] pos) (tE g W m) := pe_one ha
theorem em_andV (hK : X.K = g.K) (ha : PE X a (tE g W ma)) (hb : PE X (.BoolOp .And (b :: rest) pos) (tE g W mb)) : PE X (.BoolOp .And (a :: b :: rest) pos) (tE g W (mAndV ma mb)) := by
  refine PE_weak (pe_andT ha hb) ?_
  rintro σv H Q ⟨F, ι, σ, h, hr, lr, p⟩
  refine tM_bind (f := fun σ x h1 => bindR (truD x h1) fun k h2 => if k = true then mb σ h2 else .ok x h2) hr lr p fun F1 ι1 H1 x h1 v l hr1 lr1 r1 p1 => ?_
  obtain ⟨k, q1, q2⟩ := tru_D hr1 r1 p1
  refine ⟨k, by rw [hK]; exact q1, ?_⟩
  by_cases hk : k = true
  · rw [if_pos hk] at q2 ⊢
    exact ⟨F1, ι1, σ, h1, hr1, lr1, q2⟩
  · rw [if_neg hk] at q2 ⊢
    exact q2 F1 ι1 H1 v .refl hr1 r1
theorem em_orV (hK : X.K = g.K) (ha : PE X a (tE g W ma)) (hb : PE X (.BoolOp .Or (b :: rest) pos) (tE g W mb)) : PE X (.BoolOp .Or (a :: b :: rest) pos) (tE g W (mOrV ma mb)) := by
  refine PE_weak (pe_orT ha hb) ?_
  rintro σv H Q ⟨F, ι, σ, h, hr, lr, p⟩
  refine tM_bind (f := fun σ x h1 => bindR (truD x h1) fun k h2 => if k = true then .ok x h2 else mb σ h2) hr lr p fun F1 ι1 H1 x h1 v l hr1 lr1 r1 p1 => ?_
  obtain ⟨k, q1, q2⟩ := tru_D hr1 r1 p1
  refine ⟨k, by rw [hK]; exact q1, ?_⟩
  by_cases hk : k = true
  · rw [if_pos hk] at q2 ⊢
    exact q2 F1 ι1 H1 v .refl hr1 r1
  · rw [if_neg hk] at q2 ⊢
    exact ⟨F1, ι1, σ, h1, hr1, lr1, q2⟩
theorem em_notV (hK : X.K = g.K) (ha : PE X a (tE g W ma)) : PE X (.UnaryOp .Not a pos) (tE g W (mNotV ma)) := by
  refine PE_weak (pe_notT ha) ?_
  rintro σv H Q ⟨F, ι, σ, h, hr, lr, p⟩
  refine tM_bind (f := fun σ x h1 => bindR (truD x h1) fun k h2 => .ok (D.bl (!k)) h2) hr lr p fun F1 ι1 H1 x h1 v l hr1 lr1 r1 p1 => ?_
  obtain ⟨k, q1, q2⟩ := tru_D hr1 r1 p1
  exact ⟨k, by rw [hK]; exact q1, finb q2 hr1⟩
def mIf (t : MT) (ma mb : ME) : ME := fun σ h => bindR (t σ h) fun k h1 => if k = true then ma σ h1 else mb σ h1
theorem em_ifE (hc : PT X c (tT g W t)) (ha : PE X a (tE g W ma)) (hb : PE X b (tE g W mb)) : PE X (.IfExp c a b pos) (tE g W (mIf t ma mb)) := by
  refine PE_weak (pe_ifExp hc ha hb) ?_
  rintro σv H Q ⟨F, ι, σ, h, hr, lr, p⟩
  refine tM_bind (f := fun σ k h1 => if k = true then ma σ h1 else mb σ h1) hr lr p fun F1 ι1 H1 x h1 v l hr1 lr1 r1 p1 => ?_
  subst r1
  by_cases hk : v = true
  · rw [if_pos hk] at p1 ⊢
    exact ⟨F1, ι1, σ, h1, hr1, lr1, p1⟩
  · rw [if_neg hk] at p1 ⊢
    exact ⟨F1, ι1, σ, h1, hr1, lr1, p1⟩
/-! ### unary minus -/
def mNeg (m : ME) : ME := fun σ h => bindR (m σ h) fun x h1 => match x with | .int i => .ok (.int (-i)) h1 | _ => .stuck
theorem em_neg (ha : PE X a (tE g W m)) : PE X (.UnaryOp .USub a pos) (tE g W (mNeg m)) := by
  refine PE_weak (pe_un un_neg ha) ?_
  rintro σv H Q ⟨F, ι, σ, h, hr, lr, p⟩
  refine tM_bind (f := fun σ x h1 => match x with | D.int i => .ok (D.int (-i)) h1 | _ => .stuck) hr lr p fun F1 ι1 H1 x h1 v l hr1 lr1 r1 p1 => ?_
  split at p1
  · cases r1.int'
    exact ⟨_, rfl, fini p1 hr1⟩
  · exact p1.elim
/-! ### arguments, displays -/
def mNil : MA := fun _ h => .ok [] h
def mCons (m : ME) (r : MA) : MA := fun σ h => bindR (m σ h) fun x h1 => bindR (r σ h1) fun xs h2 => .ok (x :: xs) h2
theorem am_nil : PA X [] (tA g W mNil) := by
  refine PA_weak pa_nil ?_
  rintro σv H Q ⟨F, ι, σ, h, hr, lr, p⟩
  exact p F ι H [] .refl hr (by simp [VRs])
theorem am_cons {r : MA} (ha : PE X e (tE g W m)) (hr : PA X es (tA g W r)) (hs : starEach (e :: es) X.env = (false, eval e X.env) :: starEach es X.env := by rfl) : PA X (e :: es) (tA g W (mCons m r)) := by
  refine PA_weak (pa_cons ha hr hs) ?_
  rintro σv H Q ⟨F, ι, σ, h, hr, lr, p⟩
  refine tM_bind (f := fun σ x h1 => bindR (r σ h1) fun xs h2 => .ok (x :: xs) h2) hr lr p fun F1 ι1 H1 x h1 v l hr1 lr1 r1 p1 => ?_
  refine tM_bind (f := fun σ xs h2 => .ok (x :: xs) h2) hr1 lr1 p1 fun F2 ι2 H2 xs h2 vs l2 hr2 lr2 r2 p2 => ?_
  exact p2 F2 ι2 H2 (v :: vs) .refl hr2 (by simp only [VRs]; exact ⟨v, vs, rfl, VR.mono l2 _ _ r1, r2⟩)
def mTup (r : MA) : ME := fun σ h => bindR (r σ h) fun xs h1 => okIf (xs.length ≤ sizeLine) (.ok (.tup xs) h1)
def mLst (mu : Bool) (r : MA) : ME := fun σ h => bindR (r σ h) fun xs h1 => okIf (xs.length ≤ sizeLine) (mkL mu xs h1)
theorem em_tup {r : MA} {k} (t : TiOk g) (ha : PA X es (tA g W r)) : PE X (.Tuple es k pos) (tE g W (mTup r)) := by
  refine PE_weak (pe_tup ha) ?_
  rintro σv H Q ⟨F, ι, σ, h, hr, lr, p⟩
  refine tM_bind (f := fun σ xs h1 => okIf (xs.length ≤ sizeLine) (.ok (.tup xs) h1)) hr lr p fun F1 ι1 H1 x h1 v l hr1 lr1 r1 p1 => ?_
  obtain ⟨hz, p1⟩ := okIf_post p1
  exact ⟨by rw [r1.length]; exact hz, mkT_ok t hr1 r1 p1⟩
theorem em_lst {r : MA} (t : TiOk g) (mu : Bool) (ha : PA X es (tA g W r)) : PE X (.List es pos) (tE g W (mLst mu r)) := by
  refine PE_weak (pe_lst ha) ?_
  rintro σv H Q ⟨F, ι, σ, h, hr, lr, p⟩
  refine tM_bind (f := fun σ xs h1 => okIf (xs.length ≤ sizeLine) (mkL mu xs h1)) hr lr p fun F1 ι1 H1 x h1 v l hr1 lr1 r1 p1 => ?_
  obtain ⟨hz, p1⟩ := okIf_post p1
  exact ⟨by rw [r1.length]; exact hz, mkL_ok t hr1 r1 p1⟩
end
end DV
end
section
set_option Elab.async false
set_option linter.all false
set_option maxRecDepth 100000
set_option maxHeartbeats 2000000
namespace DV
open PySem L2 PyProof.Rows

section
variable {X : Cx} {g : G} {W : WX} {e a b c o : Expr} {es rest : List Expr} {pos : Pos} {m ma mb : ME} {r : MA}
/-! ### fields -/
/-- what is asked of a class and a name -/
def AttrOk (K : PySem.W.Frag) (C : Addr) (f : Str) : Prop := Cls K C ∧ NoAttr K C f
def fldD (cs : List Nat) (f : Str) (x : D) (h : AH) : Rv D :=
  match getI h x with
  | some (c, fs) => if cs.contains c = true then match fs.lookup f with | some d => .ok d h | none => .stuck else .stuck
  | none => .stuck
def mFld (cs : List Nat) (f : Str) (m : ME) : ME := fun σ h => bindR (m σ h) (fldD cs f)
theorem em_fld {f : Str} (cs : List Nat) (hK : X.K = g.K) (hc : ∀ c ∈ cs, AttrOk g.K (g.cls c) f) (he : PE X e (tE g W m)) (hb : attributeBase e f X.env (eval e X.env) = eval e X.env) : PE X (.Attribute e f pos) (tE g W (mFld cs f m)) := by
  refine PE_weak (pe_fld he hb) ?_
  rintro σv H Q ⟨F, ι, σ, h, hr, lr, p⟩
  refine tM_bind (f := fun _ => fldD cs f) hr lr p fun F1 ι1 H1 x h1 v l hr1 lr1 r1 p1 => ?_
  unfold fldD at p1
  split at p1
  · rename_i c fs eI
    split at p1
    · rename_i hcs
      split at p1
      · rename_i d ed
        obtain ⟨p', dx, ws, rfl, q1, q2⟩ := getI_ok hr1 eI r1
        obtain ⟨y, q3, q4⟩ := q2.look.1 d ed
        obtain ⟨A1, A2⟩ := hc c (by simpa using hcs)
        exact ⟨p', _, dx, ws, y, rfl, q1, by rw [hK]; exact A1, by rw [hK]; exact A2, q3, fin p1 hr1 q4⟩
      · exact p1.elim
    · exact p1.elim
  · exact p1.elim

/-! ### subscripts -/
def ixD (a b : D) (h : AH) : Rv D :=
  match b with
  | .int i =>
    match a with
    | .str z => okIf (z.length ≤ sizeLine) (match atI z.cps.toList i with | some c => .ok (.str ⟨#[c]⟩) h | none => .stuck)
    | a => match getS h a with
      | some xs => match atI xs i with | some d => .ok d h | none => .stuck
      | none => .stuck
  | _ => .stuck
theorem atI_rel {F : Kn} {ι : List Addr} {ds : List D} {vs : List V} {i : Int} {d : D} (r : VRs g F ι ds vs) (e : atI ds i = some d) : ∃ v, atI vs i = some v ∧ VR g F ι d v := by
  unfold atI at e ⊢
  rw [r.length]
  cases q : ixN ds.length i with
  | none => rw [q] at e; cases e
  | some j =>
    rw [q] at e
    exact r.get e
theorem ok_ix : OpOk g (rIx g.K) ixD := by
  intro W F ι h H σv a b v u Q hr ra rb p
  have big : (∀ i, b = .int i → (match getS h a with
      | some xs => match atI xs i with | some d => Rv.ok d h | none => .stuck
      | none => .stuck) = ixD a b h → rIx g.K v u H Q) := fun i ei e => by
    rw [← e] at p
    subst ei
    cases rb.int'
    split at p
    · rename_i xs e1
      split at p
      · rename_i d e2
        obtain ⟨l, vs, rfl, q1, q2⟩ := getS_ok hr e1 ra
        obtain ⟨y, q3, q4⟩ := atI_rel q2 e2
        rcases q1 with q1 | q1
        · exact .inl ⟨l, vs, i, y, rfl, rfl, q1, q3, fin p hr q4⟩
        · exact .inr (.inl ⟨l, vs, i, y, rfl, rfl, q1, q3, fin p hr q4⟩)
      · exact p.elim
    · exact p.elim
  cases b with
  | int i =>
    cases a with
    | str z =>
      cases ra.str'; cases rb.int'
      simp only [ixD] at p
      obtain ⟨hz, p⟩ := okIf_post p
      split at p
      · rename_i c e1
        exact .inr (.inr ⟨z, i, c, rfl, rfl, hz, e1, fins p hr⟩)
      · exact p.elim
    | _ => exact big i rfl rfl
  | _ => exact p.elim
theorem em_ixS (hK : X.K = g.K) (ha : PE X a (tE g W ma)) (hb : PE X b (tE g W mb)) (hs : PlainIx b) : PE X (.Subscript a b pos) (tE g W (mOp ixD ma mb)) :=
  em_ix (r := rIx X.K) ix_seq (by rw [hK]; exact ok_ix) ha hb hs

/-! dicts -/
def lkK : List (Key × D) → Key → Option D
  | [], _ => none
  | (k', d) :: r, k => if k' = k then some d else lkK r k
theorem VRk.val {F : Kn} {ι : List Addr} {k : Key} : ∀ {ks : List (Key × D)} {ws : List (Key × V)}, VRk g F ι ks ws → (∀ d, lkK ks k = some d → ∃ v, valV ws k = some v ∧ VR g F ι d v) ∧ (lkK ks k = none → valV ws k = none)
  | [], ws, r => by simp only [VRk] at r; subst r; simp [valV, lkK]
  | (k', d) :: ks, ws, r => by
    simp only [VRk] at r
    obtain ⟨v, us, rfl, q, r⟩ := r
    by_cases e : k' = k
    · simp only [lkK, if_pos e, Option.some.injEq, reduceCtorEq, false_implies, and_true]
      rintro _ rfl
      exact ⟨v, valV_pos e, q⟩
    · simp only [lkK, if_neg e]
      rw [valV_neg (show ¬ (k', v).1 = k from e)]
      exact VRk.val r
def keyD : D → Option Key
  | .int i => some (.inl i)
  | .str x => some (.inr x)
  | _ => none
theorem keyD_ok {F : Kn} {ι : List Addr} {d : D} {v : V} {k : Key} (e : keyD d = some k) (r : VR g F ι d v) : v = kV k := by
  cases d with
  | int i => cases e; exact r.int'
  | str i => cases e; exact r.str'
  | _ => cases e
theorem getK_ok {F : Kn} {ι : List Addr} {h : AH} {H : Hp} (r : HR g F ι h H) {d : D} {v : V} {ds : List (Key × D)} (e : getK h d = some ds) (rv : VR g F ι d v) : ∃ a vs, v = .ref a ∧ Rd H a (.dK vs) ∧ VRk g F ι ds vs := by
  cases d with
  | dct es =>
    cases e
    simp only [VR] at rv
    obtain ⟨a, vs, rfl, t, q⟩ := rv
    rcases r.fr _ _ t with ⟨z, _⟩ | ⟨ws, ob, e, z⟩
    · exact ⟨a, vs, rfl, .inl z, q⟩
    · exact ⟨a, vs, rfl, .inr ⟨ob, z⟩, q⟩
  | ref n =>
    simp only [VR] at rv
    obtain ⟨a, rfl, t⟩ := rv
    simp only [getK] at e
    split at e
    · rename_i es q
      cases e
      obtain ⟨b, x, q1, q2, ⟨vs, rfl, q3⟩, _⟩ := r.hp n _ q
      rw [t] at q1
      cases q1
      exact ⟨a, vs, rfl, .inl q2, q3⟩
    · rename_i es q
      cases e
      obtain ⟨b, x, q1, q2, ⟨ob, vs, rfl, q3⟩, _⟩ := r.hp n _ q
      rw [t] at q1
      cases q1
      exact ⟨a, vs, rfl, .inr ⟨ob, q2⟩, q3⟩
    · cases e
  | _ => cases e
/-- d[k], by values -/
def rIxD : R2 := fun x y H Q => ∃ a v, x = .ref a ∧ DGet H a y (some v) ∧ Q v H
theorem ix_dict (hu : X.A.units + 1 < cLine) : IxR X rIxD := by
  intro value slice pins s σ H x y v u Q I rx ry h hs
  obtain ⟨a, w, rfl, gt, q⟩ := h
  cases rx
  exact tail_any (ops := [.ref a, u]) (dict_typeIs I gt) PySem.F.slot_dict_getitem.lookup (d_getItem hu I gt ry fun w' s3 I3 rw' => ⟨w, H, I3, rw', q⟩) hs
def ORel (g : G) (F : Kn) (ι : List Addr) : Option D → Option V → Prop
  | some d, ov => ∃ y, ov = some y ∧ VR g F ι d y
  | none, ov => ov = none
def lookD (a b : D) (h : AH) : Option (Option D) :=
  match getK h a, keyD b with
  | some ks, some k => some (lkK ks k)
  | _, _ => none
theorem lookD_ok {F : Kn} {ι : List Addr} {h : AH} {H : Hp} (hr : HR g F ι h H) {a b : D} {v u : V} {o : Option D} (e : lookD a b h = some o) (ra : VR g F ι a v) (rb : VR g F ι b u) :
    ∃ p, v = .ref p ∧ ∃ ov, DGet H p u ov ∧ ORel g F ι o ov := by
  unfold lookD at e
  split at e
  · rename_i ks k e1 e2
    cases e
    obtain ⟨p, ws, rfl, q1, q2⟩ := getK_ok hr e1 ra
    cases keyD_ok e2 rb
    refine ⟨p, rfl, valV ws k, .inl ⟨ws, k, q1, rfl, rfl⟩, ?_⟩
    have z := VRk.val (k := k) q2
    revert z
    cases lkK ks k with
    | some d => exact fun z => z.1 d rfl
    | none => exact fun z => z.2 rfl
  · cases e
/-- any subscript -/
def subD (a b : D) (h : AH) : Rv D :=
  match getK h a with
  | some _ => match lookD a b h with | some (some d) => .ok d h | _ => .stuck
  | none => ixD a b h
theorem ok_sub : OpOk g (fun x y H Q => rIx g.K x y H Q ∨ rIxD x y H Q) subD := by
  intro W F ι h H σv a b v u Q hr ra rb p
  unfold subD at p
  split at p
  · split at p
    · rename_i d e
      obtain ⟨q, rfl, ov, z1, y, rfl, z2⟩ := lookD_ok hr e ra rb
      exact .inr ⟨q, y, rfl, z1, fin p hr z2⟩
    · exact p.elim
  · exact .inl (ok_ix W F ι h H σv a b v u Q hr ra rb p)
theorem em_sub (hK : X.K = g.K) (hu : X.A.units + 1 < cLine) (ha : PE X a (tE g W ma)) (hb : PE X b (tE g W mb)) (hs : PlainIx b) : PE X (.Subscript a b pos) (tE g W (mOp subD ma mb)) :=
  em_ix (r := fun x y H Q => rIx X.K x y H Q ∨ rIxD x y H Q) (ix_seq.or (ix_dict hu)) (by rw [hK]; exact ok_sub) ha hb hs

/-! ### slices -/
abbrev MO := AS → AH → Rv (Option Int)
abbrev tO (g : G) (W : WX) (m : MO) : TO := tM g W (fun _ _ a b => b = a) m
def mPN : MO := fun _ h => .ok none h
def mPS (m : ME) : MO := fun σ h => bindR (m σ h) fun x h1 => match x with | .int i => .ok (some i) h1 | _ => .stuck
theorem om_none : PO X none (tO g W mPN) := by
  refine PO_weak po_none ?_
  rintro σv H Q ⟨F, ι, σ, h, hr, lr, p⟩
  exact p F ι H none .refl hr rfl
theorem om_some (ha : PE X e (tE g W m)) : PO X (some e) (tO g W (mPS m)) := by
  refine PO_weak (po_some ha) ?_
  rintro σv H Q ⟨F, ι, σ, h, hr, lr, p⟩
  refine tM_bind (f := fun σ x h1 => match x with | D.int i => .ok (some i) h1 | _ => .stuck) hr lr p fun F1 ι1 H1 x h1 v l hr1 lr1 r1 p1 => ?_
  split at p1
  · cases r1.int'
    exact ⟨_, rfl, p1 F1 ι1 H1 _ .refl hr1 rfl⟩
  · exact p1.elim
def cutD (xs : List D) (lo hi : Option Int) : List D := (xs.drop (HT.sIx xs.length 0 lo)).take (HT.sIx xs.length xs.length hi - HT.sIx xs.length 0 lo)
theorem cut_rel {F : Kn} {ι : List Addr} {ds : List D} {vs : List V} {lo hi : Option Int} (r : VRs g F ι ds vs) : VRs g F ι (cutD ds lo hi) (cutV vs lo hi) := by
  unfold cutD cutV
  rw [r.length]
  exact (r.drop _).take _
def slD (mu : Bool) (x : D) (lo hi : Option Int) (h : AH) : Rv D :=
  match x with
  | .str z => okIf (z.length ≤ sizeLine) (.ok (.str (cutS z lo hi)) h)
  | .tup xs => .ok (.tup (cutD xs lo hi)) h
  | x => match getL h x with
    | some xs => mkL mu (cutD xs lo hi) h
    | none => .stuck
def mSl (mu : Bool) (m : ME) (ml mh : MO) : ME := fun σ h => bindR (m σ h) fun x h1 => bindR (ml σ h1) fun lo h2 => bindR (mh σ h2) fun hi h3 => slD mu x lo hi h3
theorem tup_cut {F : Kn} {ι : List Addr} {h : AH} {H : Hp} {σv : L2.St} {Q : VK} (t : TiOk g) {xs : List D} {lo hi : Option Int} {v : V} (hr : HR g F ι h H) (ra : VR g F ι (.tup xs) v) (p : Post g W F ι σv (VR g) (.ok (.tup (cutD xs lo hi)) h) Q) : rSlA g.K v lo hi H Q := by
  obtain ⟨a, vs, rfl, q1, q2⟩ := tup_ok hr ra
  refine ⟨a, vs, rfl, q1, fun hw => ?_, fun _ => mkT_ok t hr (cut_rel q2) p⟩
  have e : cutD xs lo hi = xs := by
    unfold cutD
    rw [← q2.length, hw.1, hw.2]
    simp [q2.length]
  rw [e] at p
  exact fin p hr ra
theorem em_sl (t : TiOk g) (mu : Bool) (hK : X.K = g.K) {lo hi : Option Expr} {ml mh : MO} {p2 : Pos} (he : PE X e (tE g W m)) (hl : PO X lo (tO g W ml)) (hu : PO X hi (tO g W mh)) : PE X (.Subscript e (.Slice lo hi none p2) pos) (tE g W (mSl mu m ml mh)) := by
  refine PE_weak (pe_slice (r := fun x lo hi H Q => rSlS x lo hi H Q ∨ rSlA X.K x lo hi H Q ∨ rSlL X.K x lo hi H Q) (sl_str.or (sl_tupA.or sl_list)) he hl hu) ?_
  rintro σv H Q ⟨F, ι, σ, h, hr, lr, p⟩
  refine tM_bind (f := fun σ x h1 => bindR (ml σ h1) fun lo h2 => bindR (mh σ h2) fun hi h3 => slD mu x lo hi h3) hr lr p fun F1 ι1 H1 x h1 v l hr1 lr1 r1 p1 => ?_
  refine tM_bind (f := fun σ lo h2 => bindR (mh σ h2) fun hi h3 => slD mu x lo hi h3) hr1 lr1 p1 fun F2 ι2 H2 lo h2 lo' l2 hr2 lr2 r2 p2 => ?_
  refine tM_bind (f := fun σ hi h3 => slD mu x lo hi h3) hr2 lr2 p2 fun F3 ι3 H3 hi h3 hi' l3 hr3 lr3 r3 p3 => ?_
  subst r2 r3
  have r1' := VR.mono (l2.trans l3) _ _ r1
  rw [hK]
  have big : (match getL h3 x with
    | some xs => mkL mu (cutD xs lo' hi') h3
    | none => .stuck) = slD mu x lo' hi' h3 → rSlS v lo' hi' H3 Q ∨ rSlA g.K v lo' hi' H3 Q ∨ rSlL g.K v lo' hi' H3 Q := fun e => by
    rw [← e] at p3
    split at p3
    · rename_i xs e1
      obtain ⟨a, vs, rfl, q1, q2⟩ := getL_ok hr3 e1 r1'
      exact .inr (.inr ⟨a, vs, rfl, q1, mkL_ok t hr3 (cut_rel q2) p3⟩)
    · exact p3.elim
  cases x with
  | str z =>
    cases r1'.str'
    obtain ⟨hz, p3⟩ := okIf_post p3
    exact .inl ⟨z, rfl, hz, fins p3 hr3⟩
  | tup xs => exact .inr (.inl (tup_cut t hr3 r1' p3))
  | _ => exact big rfl
/-- xs[::-1] of a list -/
def mRev (mu : Bool) (m : ME) : ME := fun σ h => bindR (m σ h) fun x h1 => match getL h1 x with | some xs => mkL mu xs.reverse h1 | none => .stuck
theorem em_rev (t : TiOk g) (mu : Bool) (hK : X.K = g.K) {k : Nat} {p1 p2 p3 : Pos} (he : PE X e (tE g W m)) : PE X (.Subscript e (.Slice none none (some (.UnaryOp .USub (.Constant (.int 1) k p1) p2)) p3) pos) (tE g W (mRev mu m)) := by
  refine PE_weak (pe_revL he) ?_
  rintro σv H Q ⟨F, ι, σ, h, hr, lr, p⟩
  refine tM_bind (f := fun σ x h1 => match getL h1 x with | some xs => mkL mu xs.reverse h1 | none => .stuck) hr lr p fun F1 ι1 H1 x h1 v l hr1 lr1 r1 p1 => ?_
  split at p1
  · rename_i xs e1
    obtain ⟨a, vs, rfl, q1, q2⟩ := getL_ok hr1 e1 r1
    exact ⟨a, vs, rfl, by rw [hK]; exact q1, mkL_ok t hr1 q2.rev p1⟩
  · exact p1.elim
end
end DV
end
section
set_option Elab.async false
set_option linter.all false
set_option maxRecDepth 100000
set_option maxHeartbeats 2000000
namespace DV
open PySem L2 PyProof.Rows

/-! ### defs -/
abbrev FM := List D → AH → Rv D
def PostF (g : G) (F : Kn) (ι : List Addr) (r : Rv D) (Q : VK) (E : XK) : Prop :=
  match r with
  | .ok d h => ∀ F' ι' H' v, Le F ι F' ι' → HR g F' ι' h H' → VR g F' ι' d v → Q v H'
  | .exc c h => ∀ F' ι' H', Le F ι F' ι' → HR g F' ι' h H' → E (.ref (g.exc c)) none H'
  | .stuck => False
theorem PostF.of {g : G} {W : WX} {F : Kn} {ι : List Addr} {σv : L2.St} {r : Rv D} {Q : VK} (p : Post g W F ι σv (VR g) r Q) : PostF g F ι r Q (WE W σv) := by
  cases r with
  | ok d h => exact p
  | exc c h => exact p
  | stuck => exact p
/-- the def does what Fm says -/
def spF (g : G) (n : Nat) (Fm : FM) : Sp := fun vs H Q E => vs.length = n ∧ ∃ F ι ds h, HR g F ι h H ∧ VRs g F ι ds vs ∧ PostF g F ι (Fm ds h) Q E
section
variable {X : Cx} {g : G} {W : WX} {e a b c o : Expr} {es rest : List Expr} {pos p apos : Pos} {m ma mb mo : ME} {r : MA}
def mCall (Fm : FM) (r : MA) : ME := fun σ h => bindR (r σ h) Fm
section
variable {k : Nat} {f : Addr} {fd : FuncData} {ps : List Str} {n : Nat} {Fm : FM} {dvs : List V} {ds : List Value} {dds : List D} {x : Str}
theorem em_call (hK : X.K = g.K) (tk : Takes X W) (F : FnOk X.prog X.w X.K X.mg X.base (L2.CX X.prog X.w) k f fd ps (spF g ps.length Fm)) (hr : Room k X.A) (hg : Gl X x) (hm : X.mg x = some (.ref f)) (hk : PySem.W.keepIn X.K (.ref f) = true)
    (hb : Binds X.K fd ps ds) (hd : Vals dvs ds) (hdd : ∀ F ι, VRs g F ι dds dvs) (hn : (e :: es).length + dds.length = ps.length) (hl : ∀ σ h xs h', r σ h = .ok xs h' → xs.length = (e :: es).length)
    (ha : PA X (e :: es) (tA g W r)) (hdb : (x == ("__debug__" : Str)) = false := by decide) (he : starEach (e :: es) X.env = (false, eval e X.env) :: starEach es X.env := by rfl) (hpl : (backTo pos (starEach es X.env)).any (·.1) = false := by rfl) :
    PE X (.Call (.Name x p) (e :: es) [] pos) (tE g W (mCall (fun xs => Fm (xs ++ dds)) r)) := by
  refine PE_weak (pe_callSD (E := WE W) F hr hg hm hk hb hd (fun σ => passAt tk σ) ha hdb he hpl) ?_
  rintro σv H Q ⟨F, ι, σ, h, hr, lr, p⟩
  refine ⟨F, ι, σ, h, hr, lr, ?_⟩
  have hl' := hl σ h
  revert p
  unfold mCall
  cases q : r σ h with
  | ok xs h1 =>
    intro p F1 ι1 H1 vs l hr1 rv
    have e1 := hl' xs h1 q
    have r2 := rv.append (hdd F1 ι1)
    refine ⟨by rw [r2.length, List.length_append, e1]; exact hn, F1, ι1, xs ++ dds, h1, hr1, r2, PostF.of (p.le l)⟩
  | exc c h1 => exact fun p => p
  | stuck => exact fun p => p
end
end
/-- a list's arguments by number -/
theorem len_nil {σ : AS} {h : AH} {xs : List D} {h' : AH} (e : mNil σ h = .ok xs h') : xs.length = 0 := by cases e; rfl
theorem len_cons {m : ME} {r : MA} {n : Nat} (hr : ∀ σ h xs h', r σ h = .ok xs h' → xs.length = n) : ∀ σ h xs h', mCons m r σ h = .ok xs h' → xs.length = n + 1 := by
  intro σ h xs h' e
  unfold mCons at e
  cases q : m σ h with
  | ok x h1 =>
    rw [q] at e
    simp only [bindR] at e
    cases q2 : r σ h1 with
    | ok ys h2 =>
      rw [q2] at e
      simp only [bindR, Rv.ok.injEq] at e
      obtain ⟨rfl, _⟩ := e
      simp [hr _ _ _ _ q2]
    | exc c h2 => rw [q2] at e; cases e
    | stuck => rw [q2] at e; cases e
  | exc c h1 => rw [q] at e; cases e
  | stuck => rw [q] at e; cases e

section
variable {X : Cx} {g : G} {W : WX} {e a b c o : Expr} {es rest : List Expr} {pos p apos : Pos} {m ma mb mo : ME} {r : MA}
variable {k : Nat} {f C : Addr} {fd : FuncData} {ps : List Str} {n ci : Nat} {Fm : FM} {dvs : List V} {ds : List Value} {dds : List D} {x mn : Str}
theorem post_call {F : Kn} {ι : List Addr} {h : AH} {H : Hp} {σv : L2.St} {Q : VK} {xs : List D} {vs : List V} (hdd : ∀ F ι, VRs g F ι dds dvs) (hn : n + dds.length = ps.length) (hl : xs.length = n) (hr : HR g F ι h H) (rv : VRs g F ι xs vs)
    (p : Post g W F ι σv (VR g) (Fm (xs ++ dds) h) Q) : spF g ps.length Fm (vs ++ dvs) H Q (WE W σv) := by
  have r2 := rv.append (hdd F ι)
  exact ⟨by rw [r2.length, List.length_append, hl]; exact hn, F, ι, xs ++ dds, h, hr, r2, PostF.of p⟩
theorem em_call0 (hK : X.K = g.K) (tk : Takes X W) (F : FnOk X.prog X.w X.K X.mg X.base (L2.CX X.prog X.w) k f fd ps (spF g ps.length Fm)) (hr : Room k X.A) (hg : Gl X x) (hm : X.mg x = some (.ref f)) (hk : PySem.W.keepIn X.K (.ref f) = true)
    (hb : Binds X.K fd ps ds) (hd : Vals dvs ds) (hdd : ∀ F ι, VRs g F ι dds dvs) (hn : 0 + dds.length = ps.length)
    (hdb : (x == ("__debug__" : Str)) = false := by decide) :
    PE X (.Call (.Name x p) [] [] pos) (tE g W (mCall (fun xs => Fm (xs ++ dds)) mNil)) := by
  refine ⟨fun pins s σv H Q I hq => ?_⟩
  obtain ⟨F1, ι, σ, h, hr1, lr, pq⟩ := hq
  refine wpAny_Call_Name_kw (ld_glob I hg hm ?_ hdb)
  refine PySem.W.callWith_K0 I.kIn hk (run_fnSD (us := []) (vs := []) (E := WE W) F hr hb hd (passAt tk σv) I .nil ?_)
  exact post_call (xs := []) (vs := []) hdd hn rfl hr1 (by simp [VRs]) pq
/-! methods -/
def rcvD (c : Nat) (mn : Str) (x : D) (h : AH) : Bool := match getI h x with | some (c', fs) => decide (c' = c) && (fs.lookup mn).isNone | none => false
def mMeth (c : Nat) (mn : Str) (Fm : FM) (mo : ME) (r : MA) : ME := fun σ h => bindR (mo σ h) fun x h1 => if rcvD c mn x h1 = true then bindR (r σ h1) fun xs h2 => Fm (x :: xs) h2 else .stuck
theorem rcv_ok {F : Kn} {ι : List Addr} {h : AH} {H : Hp} (hr : HR g F ι h H) {x : D} {v : V} (e : rcvD ci mn x h = true) (rv : VR g F ι x v) : ∃ a dx fs, v = .ref a ∧ H a = some (.ins (g.cls ci) dx fs) ∧ fs.lookup mn = none := by
  unfold rcvD at e
  split at e
  · rename_i c' fs eI
    obtain ⟨a, dx, ws, rfl, q1, q2⟩ := getI_ok hr eI rv
    simp only [Bool.and_eq_true, decide_eq_true_eq, Option.isNone_iff_eq_none] at e
    obtain ⟨rfl, e2⟩ := e
    exact ⟨a, dx, ws, rfl, q1, q2.look.2 e2⟩
  · cases e
theorem em_meth {pl : Sem Bool} (hK : X.K = g.K) (tk : Takes X W) (he : PE X o (tE g W mo)) (hc : Cls X.K (g.cls ci)) (hm : Meth X.K (g.cls ci) mn f) (F : FnOk X.prog X.w X.K X.mg X.base (L2.CX X.prog X.w) k f fd ps (spF g ps.length Fm)) (hr : Room k X.A)
    (hb : Binds X.K fd ps ds) (hd : Vals dvs ds) (hdd : ∀ F ι, VRs g F ι dds dvs) (hn : (e :: es).length + 1 + dds.length = ps.length) (hl : ∀ σ h xs h', r σ h = .ok xs h' → xs.length = (e :: es).length)
    (ha : PA X (e :: es) (tA g W r))
    (hst : starEach (e :: es) X.env = (false, eval e X.env) :: starEach es X.env := by rfl) (hpl : (backTo pos (starEach es X.env)).any (·.1) = false := by rfl)
    (ht : eval (.Call (.Attribute o mn apos) (e :: es) [] pos) X.env = (do
      let ov ← eval o X.env
      standAt apos.atName
      let (f, first) ← holding [ov] (getMethod ov mn pl)
      callWith pos f first (backTo pos (starEach (e :: es) X.env)) (backToKw pos (keywordEach [] X.env))) := by rfl) :
    PE X (.Call (.Attribute o mn apos) (e :: es) [] pos) (tE g W (mMeth ci mn (fun xs => Fm (xs ++ dds)) mo r)) := by
  refine ⟨fun pins s σv H Q I hq => ?_⟩
  obtain ⟨F0, ι, σ, h, hr0, lr, pq⟩ := hq
  refine methcall_of (pl := pl) he I (tM_bind (f := fun σ x h1 => if rcvD ci mn x h1 = true then bindR (r σ h1) fun xs h2 => Fm (x :: xs ++ dds) h2 else .stuck) hr0 lr pq fun F1 ι1 H1 x h1 v l hr1 lr1 r1 p1 => ?_) ht
  split at p1
  · rename_i ex
    obtain ⟨a, dx, fs, rfl, q1, q2⟩ := rcv_ok hr1 ex r1
    refine ⟨a, _, dx, fs, f, rfl, q1, hc, hm, q2, fun s1 I1 => ?_⟩
    refine PySem.W.callWith_K (first := [.ref a]) (h₀ := X.base) I1.ok.mod.kin hm.kp (thn (ha.run pos pins s1 σv H1 (fun vs H2 => spF g ps.length Fm ((V.ref a :: vs) ++ dvs) H2 Q (WE W σv)) I1 ?_) fun us s2 ⟨vs, H2, I2, r, q2⟩ => ⟨I2.kIn, ?_⟩) hst hpl
    · refine ⟨F1, ι1, σ, h1, hr1, lr1, ?_⟩
      have hl' := hl σ h1
      revert p1
      cases q : r σ h1 with
      | ok xs h2 =>
        intro p1 F2 ι2 H2 vs l2 hr2 rv
        exact post_call (n := (e :: es).length + 1) hdd hn (by simp [hl' xs h2 q]) hr2 (by simp only [VRs]; exact ⟨_, _, rfl, VR.mono l2 _ _ r1, rv⟩) (p1.le l2)
      | exc c h1 => exact fun p => p
      | stuck => exact fun p => p
    · exact run_fnSD (us := .ref a :: us) (vs := .ref a :: vs) (E := WE W) F hr hb hd (passAt tk σv) I2 (.cons rfl r) q2
  · exact p1.elim
theorem em_meth0 {pl : Sem Bool} (hK : X.K = g.K) (tk : Takes X W) (he : PE X o (tE g W mo)) (hc : Cls X.K (g.cls ci)) (hm : Meth X.K (g.cls ci) mn f) (F : FnOk X.prog X.w X.K X.mg X.base (L2.CX X.prog X.w) k f fd ps (spF g ps.length Fm)) (hr : Room k X.A)
    (hb : Binds X.K fd ps ds) (hd : Vals dvs ds) (hdd : ∀ F ι, VRs g F ι dds dvs) (hn : 1 + dds.length = ps.length)
    (ht : eval (.Call (.Attribute o mn apos) [] [] pos) X.env = (do
      let ov ← eval o X.env
      standAt apos.atName
      let (f, first) ← holding [ov] (getMethod ov mn pl)
      callWith pos f first (backTo pos (starEach [] X.env)) (backToKw pos (keywordEach [] X.env))) := by rfl) :
    PE X (.Call (.Attribute o mn apos) [] [] pos) (tE g W (mMeth ci mn (fun xs => Fm (xs ++ dds)) mo mNil)) := by
  refine ⟨fun pins s σv H Q I hq => ?_⟩
  obtain ⟨F0, ι, σ, h, hr0, lr, pq⟩ := hq
  refine methcall_of (pl := pl) he I (tM_bind (f := fun σ x h1 => if rcvD ci mn x h1 = true then bindR (mNil σ h1) fun xs h2 => Fm (x :: xs ++ dds) h2 else .stuck) hr0 lr pq fun F1 ι1 H1 x h1 v l hr1 lr1 r1 p1 => ?_) ht
  split at p1
  · rename_i ex
    obtain ⟨a, dx, fs, rfl, q1, q2⟩ := rcv_ok hr1 ex r1
    refine ⟨a, _, dx, fs, f, rfl, q1, hc, hm, q2, fun s1 I1 => ?_⟩
    refine PySem.W.callWith_K0 (first := [.ref a]) I1.kIn hm.kp (run_fnSD (us := [.ref a]) (vs := [.ref a]) (E := WE W) F hr hb hd (passAt tk σv) I1 (.cons rfl .nil) ?_)
    exact post_call (n := 1) (xs := [x]) (vs := [V.ref a]) hdd hn rfl hr1 (VRs.one r1) p1
  · exact p1.elim
/-! a new instance -/
def initD (c : Nat) (Fm : FM) (xs : List D) (h : AH) : Rv D :=
  bindR (Fm (.ref h.length :: xs) (h ++ [some (.ins c [])])) fun d h2 => match d with | .non => .ok (.ref h.length) h2 | _ => .stuck
def mMake (c : Nat) (Fm : FM) (r : MA) : ME := fun σ h => bindR (r σ h) (initD c Fm)
theorem run_makeSD {pins : List (Addr × Obj)} {σ : L2.St} {H : Hp} {s : Shared} {Q : VK} {us : List Value} {vs : List V} {sp : Sp} {E : L2.St → XK} {CX : CXT} (M : Mk X.K C f) (F : FnOk X.prog X.w X.K X.mg X.base CX k f fd ps sp) (hr : Room (k + 1) X.A) (hb : Binds X.K fd ps ds) (hd : Vals dvs ds)
    (hx : PassesAt CX X σ (E σ)) (I : L2.Inv X pins σ H s) (r : Vals vs us)
    (h : ∀ x dx, H x = none → H dx = none → dx ≠ x → sp (.ref x :: (vs ++ dvs)) (upd (upd H dx (.own x)) x (.ins C dx [])) (fun v H2 => v = .non ∧ Q (.ref x) H2) (E σ)) :
    wpAny (model X.prog X.w) X.A (call (.ref C) us) (EP X pins σ Q) X.xe s := by
  have hq := h (s.heap.objs.size + 1) s.heap.objs.size (I.hok.fresh (Nat.le_succ _)) (I.hok.fresh (Nat.le_refl _)) (Nat.ne_of_lt (Nat.lt_succ_self _))
  have I2 := Inv.made (C := C) I
  have r2 : Vals (V.ref (s.heap.objs.size + 1) :: (vs ++ dvs)) (Value.ref (s.heap.objs.size + 1) :: (us ++ ds)) := .cons rfl (r.append hd)
  have hl : (Value.ref (s.heap.objs.size + 1) :: us ++ ds).length = ps.length := by
    have e := r2.length
    rw [F.len _ _ _ _ hq] at e
    exact e.symm
  refine wpAny_call (make_map (f := f) I.kIn M.makes M.init (beq_iff_eq.mp M.fn) (codeAny_mono (F.run _ X.stack _ _ ⟨Value.ref (s.heap.objs.size + 1) :: us, []⟩ (Value.ref (s.heap.objs.size + 1) :: (us ++ ds)) _ _ (E σ) (hr.make C us [])
    (I2.env0.make C us []) (hb _ (Value.ref (s.heap.objs.size + 1) :: us) I2.kIn hl) r2 hq) fun r s' hq' => ?_))
  cases r with
  | error e => exact hx pins _ _ e s' I2 hq'
  | ok fl =>
    cases fl with
    | ret u =>
      obtain ⟨v, H', I3, rv, ev, q3⟩ := I2.after hq'
      subst ev
      exact ⟨rv, ⟨V.ref (s.heap.objs.size + 1), H', I3, rfl, q3⟩⟩
    | next => exact False.elim hq'
    | brk => exact False.elim hq'
    | cont => exact False.elim hq'
theorem post_init (t : TiOk g) {F : Kn} {ι : List Addr} {h : AH} {H : Hp} {σv : L2.St} {Q : VK} {xs : List D} {vs : List V} (hdd : ∀ F ι, VRs g F ι dds dvs) (hn : n + 1 + dds.length = ps.length) (hl : xs.length = n) (hr : HR g F ι h H) (rv : VRs g F ι xs vs)
    (p : Post g W F ι σv (VR g) (initD ci (fun xs => Fm (xs ++ dds)) xs h) Q) : ∀ x dx, H x = none → H dx = none → dx ≠ x → spF g ps.length Fm (.ref x :: (vs ++ dvs)) (upd (upd H dx (.own x)) x (.ins (g.cls ci) dx [])) (fun v H2 => v = .non ∧ Q (.ref x) H2) (WE W σv) := by
  intro x dx hx hdx hne
  obtain ⟨hr1, l1⟩ := hr.newF t hdx (.own x)
  obtain ⟨hr2, l2⟩ := hr1.newO t (p := x) (o := .ins ci []) (x := .ins (g.cls ci) dx []) (by rw [upd_ne (Ne.symm hne)]; exact hx) ⟨dx, [], rfl, by simp [VRf]⟩
  have l := l1.trans l2
  have rx : VR g (Kn.add F dx (.own x)) (ι ++ [x]) (.ref h.length) (.ref x) := by simp only [VR]; exact ⟨x, rfl, by rw [← hr.len]; simp⟩
  have rv2 : VRs g (Kn.add F dx (.own x)) (ι ++ [x]) (.ref h.length :: xs ++ dds) (.ref x :: (vs ++ dvs)) := by
    simp only [List.cons_append, VRs]
    exact ⟨_, _, rfl, rx, (VRs.mono l _ _ rv).append (hdd _ _)⟩
  refine ⟨by rw [rv2.length]; simp [hl]; omega, _, _, _, _, hr2, rv2, ?_⟩
  have p := p.le l
  unfold initD at p
  dsimp only at p
  revert p
  cases Fm (.ref h.length :: xs ++ dds) (h ++ [some (.ins ci [])]) with
  | ok d h2 =>
    intro p F3 ι3 H3 v l3 hr3 r3
    cases d with
    | non => exact ⟨r3.non', p F3 ι3 H3 (.ref x) l3 hr3 (VR.mono l3 _ _ rx)⟩
    | _ => exact p.elim
  | exc c h2 => exact fun p => p
  | stuck => exact fun p => p
theorem em_make (t : TiOk g) (hK : X.K = g.K) (tk : Takes X W) (M : Mk X.K (g.cls ci) f) (F : FnOk X.prog X.w X.K X.mg X.base (L2.CX X.prog X.w) k f fd ps (spF g ps.length Fm)) (hr : Room (k + 1) X.A) (hg : Gl X x) (hm : X.mg x = some (.ref (g.cls ci)))
    (hb : Binds X.K fd ps ds) (hd : Vals dvs ds) (hdd : ∀ F ι, VRs g F ι dds dvs) (hn : (e :: es).length + 1 + dds.length = ps.length) (hl : ∀ σ h xs h', r σ h = .ok xs h' → xs.length = (e :: es).length)
    (ha : PA X (e :: es) (tA g W r)) (hdb : (x == ("__debug__" : Str)) = false := by decide) (he : starEach (e :: es) X.env = (false, eval e X.env) :: starEach es X.env := by rfl) (hpl : (backTo pos (starEach es X.env)).any (·.1) = false := by rfl) :
    PE X (.Call (.Name x p) (e :: es) [] pos) (tE g W (mMake ci (fun xs => Fm (xs ++ dds)) r)) := by
  refine ⟨fun pins s σv H Q I hq => ?_⟩
  obtain ⟨F0, ι, σ, h, hr0, lr, pq⟩ := hq
  refine wpAny_Call_Name_kw (ld_glob I hg hm ?_ hdb)
  refine PySem.W.callWith_K (h₀ := X.base) I.ok.mod.kin M.kp (thn (ha.run pos pins s σv H (fun vs H1 => ∀ x dx, H1 x = none → H1 dx = none → dx ≠ x → spF g ps.length Fm (.ref x :: (vs ++ dvs)) (upd (upd H1 dx (.own x)) x (.ins (g.cls ci) dx [])) (fun v H2 => v = .non ∧ Q (.ref x) H2) (WE W σv)) I ?_)
    fun us s1 ⟨vs, H1, I1, r, q⟩ => ⟨I1.kIn, run_makeSD (E := WE W) M F hr hb hd (passAt tk σv) I1 r q⟩) he hpl
  refine ⟨F0, ι, σ, h, hr0, lr, ?_⟩
  have hl' := hl σ h
  unfold mMake at pq
  revert pq
  cases q : r σ h with
  | ok xs h2 =>
    intro p1 F2 ι2 H2 vs l2 hr2 rv
    exact post_init t (n := (e :: es).length) hdd hn (hl' xs h2 q) hr2 rv (p1.le l2)
  | exc c h1 => exact fun p => p
  | stuck => exact fun p => p
theorem em_make0 (t : TiOk g) (hK : X.K = g.K) (tk : Takes X W) (M : Mk X.K (g.cls ci) f) (F : FnOk X.prog X.w X.K X.mg X.base (L2.CX X.prog X.w) k f fd ps (spF g ps.length Fm)) (hr : Room (k + 1) X.A) (hg : Gl X x) (hm : X.mg x = some (.ref (g.cls ci)))
    (hb : Binds X.K fd ps ds) (hd : Vals dvs ds) (hdd : ∀ F ι, VRs g F ι dds dvs) (hn : 0 + 1 + dds.length = ps.length) (hdb : (x == ("__debug__" : Str)) = false := by decide) :
    PE X (.Call (.Name x p) [] [] pos) (tE g W (mMake ci (fun xs => Fm (xs ++ dds)) mNil)) := by
  refine ⟨fun pins s σv H Q I hq => ?_⟩
  obtain ⟨F0, ι, σ, h, hr0, lr, pq⟩ := hq
  refine wpAny_Call_Name_kw (ld_glob I hg hm ?_ hdb)
  refine PySem.W.callWith_K0 I.kIn M.kp (run_makeSD (us := []) (vs := []) (E := WE W) M F hr hb hd (passAt tk σv) I .nil ?_)
  exact post_init t (n := 0) (xs := []) (vs := []) hdd hn rfl hr0 (by simp [VRs]) pq
/-! a thing of one's own becomes data for good -/
def frzD (d : D) (h : AH) : Rv D :=
  match d with
  | .ref n => match h[n]? with
    | some (some (.ins c fs)) => .ok (.obj c fs) (h.set n none)
    | some (some (.lst ds)) => .ok (.lst ds) (h.set n none)
    | some (some (.dct ks)) => .ok (.dct ks) (h.set n none)
    | _ => .stuck
  | d => .ok d h
def mFrz (m : ME) : ME := fun σ h => bindR (m σ h) frzD
theorem frz_ok {F : Kn} {ι : List Addr} {h : AH} {H : Hp} {σv : L2.St} {Q : VK} {d : D} {v : V} (hr : HR g F ι h H) (rv : VR g F ι d v) (p : Post g W F ι σv (VR g) (frzD d h) Q) : Q v H := by
  cases d with
  | ref n =>
    simp only [VR] at rv
    obtain ⟨a, rfl, en⟩ := rv
    simp only [frzD] at p
    split at p
    · rename_i c fs eo
      obtain ⟨b, x, q1, q2, q3, q4⟩ := hr.hp n _ eo
      rw [en] at q1
      cases q1
      obtain ⟨hr', l⟩ := hr.freeze eo en q2
      obtain ⟨dx, ws, rfl, q5⟩ := q3
      exact p _ _ _ _ l hr' (by simp only [VR]; exact ⟨a, dx, ws, rfl, add_same, VRf.mono l _ _ q5⟩)
    · rename_i ds eo
      obtain ⟨b, x, q1, q2, q3, q4⟩ := hr.hp n _ eo
      rw [en] at q1
      cases q1
      obtain ⟨hr', l⟩ := hr.freeze eo en q2
      obtain ⟨ws, rfl, q5⟩ := q3
      exact p _ _ _ _ l hr' (by simp only [VR]; exact ⟨a, ws, rfl, add_same, VRs.mono l _ _ q5⟩)
    · rename_i ds eo
      obtain ⟨b, x, q1, q2, q3, q4⟩ := hr.hp n _ eo
      rw [en] at q1
      cases q1
      obtain ⟨hr', l⟩ := hr.freeze eo en q2
      obtain ⟨ws, rfl, q5⟩ := q3
      exact p _ _ _ _ l hr' (by simp only [VR]; exact ⟨a, ws, rfl, add_same, VRk.mono l _ _ q5⟩)
    · exact p.elim
  | _ => exact fin p hr rv
theorem em_frz (he : PE X e (tE g W m)) : PE X e (tE g W (mFrz m)) := by
  refine PE_weak he ?_
  rintro σv H Q ⟨F, ι, σ, h, hr, lr, p⟩
  exact tM_bind (f := fun _ => frzD) hr lr p fun F1 ι1 H1 x h1 v l hr1 lr1 r1 p1 => frz_ok hr1 r1 p1
/-! ### built-ins by name -/
def CallOk (g : G) (r : List V → Hp → VK → Prop) (f : List D → AH → Rv D) : Prop :=
  ∀ (W : WX) (F : Kn) (ι : List Addr) (h : AH) (H : Hp) (σv : L2.St) (ds : List D) (vs : List V) (Q : VK), HR g F ι h H → VRs g F ι ds vs → Post g W F ι σv (VR g) (f ds h) Q → r vs H Q
def mCB (f : List D → AH → Rv D) (r : MA) : ME := fun σ h => bindR (r σ h) f
theorem tCB_weak {rv : List V → Hp → VK → Prop} {f : List D → AH → Rv D} (hk : CallOk g rv f) : ∀ σv H Q, tE g W (mCB f r) σv H Q → tCB rv (tA g W r) σv H Q := by
  rintro σv H Q ⟨F, ι, σ, h, hr, lr, p⟩
  exact tM_bind (f := fun _ => f) hr lr p fun F1 ι1 H1 x h1 v l hr1 lr1 r1 p1 => hk W F1 ι1 h1 H1 σv x v Q hr1 r1 p1
theorem em_callB {id : String} {rv : List V → Hp → VK → Prop} {f : List D → AH → Rv D} (hc : CallR X (.builtin id) rv) (hk : CallOk g rv f) (hg : Gl X x) (hm : X.mg x = none) (hv : bootBuiltins x = some (.builtin id)) (ha : PA X (e :: es) (tA g W r))
    (hdb : (x == ("__debug__" : Str)) = false := by decide) (hn : x ≠ "__name__" := by decide) (he : starEach (e :: es) X.env = (false, eval e X.env) :: starEach es X.env := by rfl) (hpl : (backTo pos (starEach es X.env)).any (·.1) = false := by rfl) :
    PE X (.Call (.Name x p) (e :: es) [] pos) (tE g W (mCB f r)) := PE_weak (pe_callB hc hg hm hv ha (hn := hn) (hdb := hdb) (he := he) (hpl := hpl)) (tCB_weak hk)
theorem em_callTy {id : String} {rv : List V → Hp → VK → Prop} {f : List D → AH → Rv D} (hc : CallR X (.type id) rv) (hk : CallOk g rv f) (hg : Gl X x) (hm : X.mg x = none) (hv : bootBuiltins x = some (.type id)) (ha : PA X (e :: es) (tA g W r))
    (hdb : (x == ("__debug__" : Str)) = false := by decide) (hn : x ≠ "__name__" := by decide) (he : starEach (e :: es) X.env = (false, eval e X.env) :: starEach es X.env := by rfl) (hpl : (backTo pos (starEach es X.env)).any (·.1) = false := by rfl) :
    PE X (.Call (.Name x p) (e :: es) [] pos) (tE g W (mCB f r)) := PE_weak (pe_callTy hc hg hm hv ha (hn := hn) (hdb := hdb) (he := he) (hpl := hpl)) (tCB_weak hk)
end
end DV
end
section
set_option Elab.async false
set_option linter.all false
set_option maxRecDepth 100000
set_option maxHeartbeats 2000000
namespace DV
open PySem L2 PyProof.Rows

/-! ### statements -/
def PostFl (g : G) (F : Kn) (ι : List Addr) (f : Fl) (H : Hp) (E : Ends) : Prop :=
  match f with
  | .nx σ => ∀ σv, LR g F ι σ σv → E.nx σv H
  | .bk σ => ∀ σv, LR g F ι σ σv → E.bk σv H
  | .ct σ => ∀ σv, LR g F ι σ σv → E.ct σv H
  | .rt d => ∀ v, VR g F ι d v → E.rt v H
def PostS (g : G) (W : WX) (F : Kn) (ι : List Addr) (r : Rs) (E : Ends) : Prop :=
  match r with
  | .ok f h => ∀ F' ι' H', Le F ι F' ι' → HR g F' ι' h H' → PostFl g F' ι' f H' E
  | .exc c σ h => ∀ F' ι' H' σv, Le F ι F' ι' → HR g F' ι' h H' → LR g F' ι' σ σv → W (.ref (g.exc c)) none σv H'
  | .stuck => False
theorem PostS.le {g : G} {W : WX} {F F1 : Kn} {ι ι1 : List Addr} {r : Rs} {E : Ends} (l : Le F ι F1 ι1) (p : PostS g W F ι r E) : PostS g W F1 ι1 r E := by
  cases r with
  | ok f h => exact fun F' ι' H' l' hr => p F' ι' H' (l.trans l') hr
  | exc c σ h => exact fun F' ι' H' σv l' hr lr => p F' ι' H' σv (l.trans l') hr lr
  | stuck => exact p
def tS (g : G) (W : WX) (m : MS) : TS := fun E σv H => ∃ F ι σ h, HR g F ι h H ∧ LR g F ι σ σv ∧ PostS g W F ι (m σ h) E
/-- an expression's result within a statement -/
def ofE {α : Type} (σ : AS) (r : Rv α) (f : α → AH → Rs) : Rs :=
  match r with
  | .ok a h => f a h
  | .exc c h => .exc c σ h
  | .stuck => .stuck
def seqS (r : Rs) (f : AS → AH → Rs) : Rs :=
  match r with
  | .ok (.nx σ) h => f σ h
  | r => r
section
variable {X : Cx} {g : G} {W : WX}
theorem PS_weak {st : Stmt} {t t' : TS} (h : PS X st t) (k : ∀ E σ H, t' E σ H → t E σ H) : PS X st t' := ⟨fun pins s σ H E I q => h.run pins s σ H E I (k E σ H q)⟩
theorem PSs_weak {st : List Stmt} {t t' : TS} (h : PSs X st t) (k : ∀ E σ H, t' E σ H → t E σ H) : PSs X st t' := ⟨fun pins s σ H E I q => h.run pins s σ H E I (k E σ H q)⟩
theorem PG_weak {e : Expr} {t t' : TG} (h : PG X e t) (k : ∀ v σ H Q, t' v σ H Q → t v σ H Q) : PG X e t' := ⟨fun pins s σ H v u Q I r q => h.run pins s σ H v u Q I r (k v σ H Q q)⟩
theorem PGs_weak {e : List Expr} {t t' : TGs} (h : PGs X e t) (k : ∀ v σ H Q, t' v σ H Q → t v σ H Q) : PGs X e t' := ⟨fun pins s σ H v u Q I r q => h.run pins s σ H v u Q I r (k v σ H Q q)⟩
theorem nxt {F : Kn} {ι : List Addr} {h : AH} {H : Hp} {σ : AS} {σv : L2.St} {E : Ends} (p : PostS g W F ι (.ok (.nx σ) h) E) (hr : HR g F ι h H) (lr : LR g F ι σ σv) : E.nx σv H := p F ι H .refl hr σv lr
theorem tS_bind {α β : Type} {rel : Kn → List Addr → α → β → Prop} {m : AS → AH → Rv α} {f : AS → α → AH → Rs} {F : Kn} {ι : List Addr} {σ : AS} {h : AH} {σv : L2.St} {H : Hp}
    {Q : β → Hp → Prop} {E : Ends} (hr : HR g F ι h H) (lr : LR g F ι σ σv) (p : PostS g W F ι (ofE σ (m σ h) (f σ)) E)
    (k : ∀ F1 ι1 H1 a h1 v, Le F ι F1 ι1 → HR g F1 ι1 h1 H1 → LR g F1 ι1 σ σv → rel F1 ι1 a v → PostS g W F1 ι1 (f σ a h1) E → Q v H1) : tM g W rel m σv H Q := by
  refine ⟨F, ι, σ, h, hr, lr, ?_⟩
  revert p
  cases m σ h with
  | ok a h1 => exact fun p F1 ι1 H1 v l hr1 r1 => k F1 ι1 H1 a h1 v l hr1 (lr.mono l) r1 (p.le l)
  | exc c h1 => exact fun p F1 ι1 H1 l hr1 => p F1 ι1 H1 σv l hr1 (lr.mono l)
  | stuck => exact fun p => p
variable {st : Stmt} {rest a b : List Stmt} {e o i c value : Expr} {es : List Expr} {m mo mi ma : ME} {t : MT} {s r s1 s2 : MS} {pos pos' tpos : Pos}
def sNext : MS := fun σ h => .ok (.nx σ) h
def sSeq (s r : MS) : MS := fun σ h => seqS (s σ h) r
theorem sm_nil : PSs X [] (tS g W sNext) := by
  refine PSs_weak pss_nil ?_
  rintro E σv H ⟨F, ι, σ, h, hr, lr, p⟩
  exact nxt p hr lr
theorem sm_cons (h1 : PS X st (tS g W s)) (h2 : PSs X rest (tS g W r)) : PSs X (st :: rest) (tS g W (sSeq s r)) := by
  refine PSs_weak (pss_cons h1 h2) ?_
  rintro E σv H ⟨F, ι, σ, h, hr, lr, p⟩
  refine ⟨F, ι, σ, h, hr, lr, ?_⟩
  revert p
  unfold sSeq
  cases s σ h with
  | ok f h1 =>
    cases f with
    | nx σ1 => exact fun p F1 ι1 H1 l hr1 σv1 lr1 => ⟨F1, ι1, σ1, h1, hr1, lr1, p.le l⟩
    | rt d => exact fun p => p
    | bk σ1 => exact fun p => p
    | ct σ1 => exact fun p => p
  | exc c σ1 h1 => exact fun p => p
  | stuck => exact fun p => p
theorem sm_one (h1 : PS X st (tS g W s)) : PSs X [st] (tS g W s) := pss_one h1
theorem sm_pass : PS X (.Pass pos) (tS g W sNext) := by
  refine PS_weak ps_pass ?_
  rintro E σv H ⟨F, ι, σ, h, hr, lr, p⟩
  exact nxt p hr lr
def sBreak : MS := fun σ h => .ok (.bk σ) h
def sCont : MS := fun σ h => .ok (.ct σ) h
theorem sm_break : PS X (.Break pos) (tS g W sBreak) := by
  refine PS_weak ps_break ?_
  rintro E σv H ⟨F, ι, σ, h, hr, lr, p⟩
  exact p F ι H .refl hr σv lr
theorem sm_cont : PS X (.Continue pos) (tS g W sCont) := by
  refine PS_weak ps_continue ?_
  rintro E σv H ⟨F, ι, σ, h, hr, lr, p⟩
  exact p F ι H .refl hr σv lr
def sExpr (m : ME) : MS := fun σ h => ofE σ (m σ h) fun _ h1 => .ok (.nx σ) h1
theorem sm_expr (he : PE X e (tE g W m)) (hs : swapsWith e none pos.line X.env = pure false := by rfl) : PS X (.Expr e pos) (tS g W (sExpr m)) := by
  refine PS_weak (ps_expr he hs) ?_
  rintro E σv H ⟨F, ι, σ, h, hr, lr, p⟩
  exact tS_bind (f := fun σ _ h1 => .ok (.nx σ) h1) hr lr p fun F1 ι1 H1 x h1 v l hr1 lr1 r1 p1 => nxt p1 hr1 lr1
def sRet (m : ME) : MS := fun σ h => ofE σ (m σ h) fun d h1 => .ok (.rt d) h1
theorem sm_ret (he : PE X e (tE g W m)) : PS X (.Return (some e) pos) (tS g W (sRet m)) := by
  refine PS_weak (ps_ret he) ?_
  rintro E σv H ⟨F, ι, σ, h, hr, lr, p⟩
  exact tS_bind (f := fun σ d h1 => .ok (.rt d) h1) hr lr p fun F1 ι1 H1 x h1 v l hr1 lr1 r1 p1 => p1 F1 ι1 H1 .refl hr1 v r1
def sRetN : MS := fun _ h => .ok (.rt .non) h
theorem sm_retN : PS X (.Return none pos) (tS g W sRetN) := by
  refine PS_weak ps_retN ?_
  rintro E σv H ⟨F, ι, σ, h, hr, lr, p⟩
  exact p F ι H .refl hr .non (by simp [VR])
def sIf (t : MT) (s1 s2 : MS) : MS := fun σ h => ofE σ (t σ h) fun k h1 => if k = true then s1 σ h1 else s2 σ h1
theorem sm_if (hc : PT X c (tT g W t)) (ha : PSs X a (tS g W s1)) (hb : PSs X b (tS g W s2)) : PS X (.If c a b pos) (tS g W (sIf t s1 s2)) := by
  refine PS_weak (ps_if hc ha hb) ?_
  rintro E σv H ⟨F, ι, σ, h, hr, lr, p⟩
  refine tS_bind (f := fun σ k h1 => if k = true then s1 σ h1 else s2 σ h1) hr lr p fun F1 ι1 H1 x h1 v l hr1 lr1 r1 p1 => ?_
  subst r1
  by_cases hk : v = true
  · rw [if_pos hk] at p1 ⊢
    exact ⟨F1, ι1, σ, h1, hr1, lr1, p1⟩
  · rw [if_neg hk] at p1 ⊢
    exact ⟨F1, ι1, σ, h1, hr1, lr1, p1⟩

/-! ### targets -/
abbrev MG := D → AS → AH → Rv AS
abbrev MGs := List D → AS → AH → Rv AS
/-- but for the slots of is -/
def SameBut (is : List Nat) (σ σ' : L2.St) : Prop := σ'.length = σ.length ∧ ∀ j, j ∉ is → σ'[j]? = σ[j]?
theorem SameBut.refl {is : List Nat} {σ : L2.St} : SameBut is σ σ := ⟨rfl, fun _ _ => rfl⟩
theorem SameBut.trans {is js : List Nat} {σ σ1 σ2 : L2.St} (a : SameBut is σ σ1) (b : SameBut js σ1 σ2) : SameBut (is ++ js) σ σ2 :=
  ⟨b.1.trans a.1, fun j hj => (b.2 j fun z => hj (List.mem_append_right _ z)).trans (a.2 j fun z => hj (List.mem_append_left _ z))⟩
theorem SameBut.set {i : Nat} {σ : L2.St} {v : V} : SameBut [i] σ (σ.set i (some v)) := ⟨by simp, fun j hj => List.getElem?_set_ne (fun z => hj (by simp [z]))⟩
def tG (g : G) (W : WX) (is : List Nat) (m : MG) : TG := fun v σv H Q => ∃ F ι σ h d, HR g F ι h H ∧ LR g F ι σ σv ∧ VR g F ι d v ∧ (match m d σ h with | .ok σ' h' => ∀ F' ι' H' σv', Le F ι F' ι' → HR g F' ι' h' H' → LR g F' ι' σ' σv' → SameBut is σv σv' → Q σv' H' | _ => False)
def tGs (g : G) (W : WX) (is : List Nat) (m : MGs) : TGs := fun v σv H Q => ∃ F ι σ h d, HR g F ι h H ∧ LR g F ι σ σv ∧ VRs g F ι d v ∧ (match m d σ h with | .ok σ' h' => ∀ F' ι' H' σv', Le F ι F' ι' → HR g F' ι' h' H' → LR g F' ι' σ' σv' → SameBut is σv σv' → Q σv' H' | _ => False)
theorem LR.set {F : Kn} {ι : List Addr} {σ : AS} {σv : L2.St} (lr : LR g F ι σ σv) {i : Nat} {d : D} {v : V} (r : VR g F ι d v) : LR g F ι (σ.set i (some d)) (σv.set i (some v)) := by
  refine ⟨by simpa using lr.1, fun j x e => ?_⟩
  by_cases hj : j = i
  · subst hj
    by_cases hl : j < σ.length
    · rw [List.getElem?_set_self hl] at e
      cases e
      exact ⟨v, by rw [List.getElem?_set_self (by rw [← lr.1]; exact hl)], r⟩
    · rw [List.getElem?_eq_none (by simpa using hl)] at e
      cases e
  · rw [List.getElem?_set_ne (Ne.symm hj)] at e
    obtain ⟨y, q1, q2⟩ := lr.2 j x e
    exact ⟨y, by rw [List.getElem?_set_ne (Ne.symm hj)]; exact q1, q2⟩
def gmName (i : Nat) : MG := fun d σ h => .ok (σ.set i (some d)) h
theorem gm_name {i : Nat} {x : Str} (hN : X.N.Nodup) (hi : X.N[i]? = some x) (hx : Loc X.env.scope x) (hf : X.fn x = true ∨ X.env.scope.names.lookup x = some .local) : PG X (.Name x pos) (tG g W [i] (gmName i)) := by
  refine PG_weak (pg_name hN hi hx hf) ?_
  rintro v σv H Q ⟨F, ι, σ, h, d, hr, lr, rv, p⟩
  exact p F ι H _ .refl hr (lr.set rv) .set
def gmNil : MGs := fun ds σ h => match ds with | [] => .ok σ h | _ => .stuck
def gmCons (m : MG) (r : MGs) : MGs := fun ds σ h => match ds with | d :: ds => (match m d σ h with | .ok σ1 h1 => r ds σ1 h1 | _ => .stuck) | _ => .stuck
theorem gm_nil : PGs X [] (tGs g W [] gmNil) := by
  refine PGs_weak pgs_nil ?_
  rintro v σv H Q ⟨F, ι, σ, h, d, hr, lr, rv, p⟩
  cases d with
  | nil => simp only [VRs] at rv; exact ⟨rv, p F ι H _ .refl hr lr .refl⟩
  | cons d ds => exact p.elim
theorem gm_cons {mg : MG} {rg : MGs} {is js : List Nat} (h1 : PG X e (tG g W is mg)) (h2 : PGs X es (tGs g W js rg)) (hs : (assignEach (e :: es) X.env).map (·.2) = assign e X.env :: (assignEach es X.env).map (·.2) := by rfl) : PGs X (e :: es) (tGs g W (is ++ js) (gmCons mg rg)) := by
  refine PGs_weak (pgs_cons h1 h2 hs) ?_
  rintro v σv H Q ⟨F, ι, σ, h, d, hr, lr, rv, p⟩
  cases d with
  | nil => exact p.elim
  | cons d ds =>
    simp only [VRs] at rv
    obtain ⟨v, ws, rfl, r1, r2⟩ := rv
    refine ⟨v, ws, rfl, F, ι, σ, h, d, hr, lr, r1, ?_⟩
    simp only [gmCons] at p
    revert p
    cases mg d σ h with
    | ok σ1 h1 => exact fun p F1 ι1 H1 σv1 l1 hr1 lr1 sb1 => ⟨F1, ι1, σ1, h1, ds, hr1, lr1, VRs.mono l1 _ _ r2, by
        revert p
        dsimp only
        cases rg ds σ1 h1 with
        | ok σ2 h2 => exact fun p F2 ι2 H2 σv2 l2 hr2 lr2 sb2 => p F2 ι2 H2 σv2 (l1.trans l2) hr2 lr2 (sb1.trans sb2)
        | exc c h2 => exact fun p => p
        | stuck => exact fun p => p⟩
    | exc c h1 => exact fun p => p
    | stuck => exact fun p => p
def gmTup (n : Nat) (r : MGs) : MG := fun d σ h => match d with | .tup ds => if ds.length = n then r ds σ h else .stuck | _ => .stuck
theorem gm_tup {k n : Nat} {rg : MGs} {is : List Nat} (hK : X.K = g.K) (hc : X.calm = true) (h : PGs X es (tGs g W is rg)) (hn : (assignEach es X.env).length = n := by rfl) (hst : (assignEach es X.env).findIdx? (·.1) = none := by rfl) : PG X (.Tuple es k pos) (tG g W is (gmTup n rg)) := by
  refine PG_weak (pg_tup hc h hn hst) ?_
  rintro v σv H Q ⟨F, ι, σ, h, d, hr, lr, rv, p⟩
  cases d with
  | tup ds =>
    by_cases hl : ds.length = n
    · simp only [gmTup, if_pos hl] at p
      obtain ⟨a, vs, rfl, q1, q2⟩ := tup_ok hr rv
      exact ⟨a, vs, rfl, by rw [hK]; exact q1, by rw [q2.length]; exact hl, F, ι, σ, h, ds, hr, lr, q2, p⟩
    · simp only [gmTup, if_neg hl] at p
  | _ => exact p.elim
/-- target = value -/
def ofG (r : Rv AS) : Rs := match r with | .ok σ h => .ok (.nx σ) h | _ => .stuck
def sAsg (m : ME) (mg : MG) : MS := fun σ h => ofE σ (m σ h) fun d h1 => ofG (mg d σ h1)
theorem asg_weak {mg : MG} {is : List Nat} : ∀ E σv H, tS g W (sAsg m mg) E σv H → tAsg (tE g W m) (tG g W is mg) E σv H := by
  rintro E σv H ⟨F, ι, σ, h, hr, lr, p⟩
  refine tS_bind (f := fun σ d h1 => ofG (mg d σ h1)) hr lr p fun F1 ι1 H1 x h1 v l hr1 lr1 r1 p1 => ?_
  refine ⟨F1, ι1, σ, h1, x, hr1, lr1, r1, ?_⟩
  revert p1
  cases mg x σ h1 with
  | ok σ2 h2 => exact fun p F2 ι2 H2 σv2 l2 hr2 lr2 _ => p F2 ι2 H2 l2 hr2 σv2 lr2
  | exc c h2 => exact fun p => p
  | stuck => exact fun p => p
theorem sm_asg {tg : Expr} {mg : MG} {is : List Nat} (he : PE X e (tE g W m)) (hg : PG X tg (tG g W is mg)) (hs : swapsWithSole [tg] e pos.line X.env = pure false := by rfl) (hw : swappedStores [tg] e X.env = pure none := by rfl)
    (h1 : (assignEach [tg] X.env).map (·.2) = [assign tg X.env] := by rfl) : PS X (.Assign [tg] e pos) (tS g W (sAsg m mg)) := PS_weak (ps_asg he hg hs hw h1) asg_weak
theorem sm_set {i : Nat} {x : Str} (hN : X.N.Nodup) (hi : X.N[i]? = some x) (hx : Loc X.env.scope x) (he : PE X e (tE g W m)) (hf : X.fn x = true ∨ X.env.scope.names.lookup x = some .local) (hs : swapsWith e (some (.Name x pos')) pos.line X.env = pure false := by rfl) :
    PS X (.Assign [.Name x pos'] e pos) (tS g W (sAsg m (gmName i))) := by
  refine PS_weak (ps_set hN hi hx he hs hf) ?_
  rintro E σv H ⟨F, ι, σ, h, hr, lr, p⟩
  refine tS_bind (f := fun σ d h1 => ofG (gmName i d σ h1)) hr lr p fun F1 ι1 H1 x h1 v l hr1 lr1 r1 p1 => ?_
  exact nxt p1 hr1 (lr1.set r1)
/-- a, b = x, y: stored from the right -/
def parSet : List Nat → List D → AS → AS
  | i :: is, d :: ds, σ => parSet is ds (σ.set i (some d))
  | _, _, σ => σ
def parS (is : List Nat) (σ : AS) (ds : List D) (h : AH) : Rs := if ds.length = is.length then .ok (.nx (parSet is ds σ)) h else .stuck
def sPar (is : List Nat) (r : MA) : MS := fun σ h => ofE σ (r σ h) (parS is σ)
theorem sm_par {i j : Nat} {x y : Str} {a b : Expr} {r : MA} {px py pt : Pos} {kt k2 pt2} (hc : X.calm = true) (hN : X.N.Nodup) (hi : X.N[i]? = some x) (hj : X.N[j]? = some y) (hij : i ≠ j)
    (hx : X.env.scope.names.lookup x = some .local) (hy : X.env.scope.names.lookup y = some .local) (ha : PA X [a, b] (tA g W r))
    (hw : swappedStores [.Tuple [.Name x px, .Name y py] kt pt] (.Tuple [a, b] k2 pt2) X.env = pure (some [x, y]))
    (hs : swapsWithSole [.Tuple [.Name x px, .Name y py] kt pt] (.Tuple [a, b] k2 pt2) pos.line X.env = pure false := by rfl) :
    PS X (.Assign [.Tuple [.Name x px, .Name y py] kt pt] (.Tuple [a, b] k2 pt2) pos) (tS g W (sPar [i, j] r)) := by
  refine PS_weak (ps_par hc hN hi hj hij hx hy ha hw hs) ?_
  rintro E σv H ⟨F, ι, σ, h, hr, lr, p⟩
  refine tS_bind (f := parS [i, j]) hr lr p fun F1 ι1 H1 x h1 v l hr1 lr1 r1 p1 => ?_
  match x, r1, p1 with
  | [d1, d2], r1, p1 =>
    simp only [VRs] at r1
    obtain ⟨v1, _, rfl, q1, v2, _, rfl, q2, rfl⟩ := r1
    exact ⟨v1, v2, rfl, nxt p1 hr1 ((lr1.set q1).set q2)⟩
  | [], _, p1 => exact p1.elim
  | [_], _, p1 => exact p1.elim
  | _ :: _ :: _ :: _, _, p1 => exact (by simp [parS] at p1; exact p1.elim)
theorem sm_par3 {i j k : Nat} {x y z : Str} {a b c : Expr} {r : MA} {px py pz pt : Pos} {kt k2 pt2} (hc : X.calm = true) (hN : X.N.Nodup) (hi : X.N[i]? = some x) (hj : X.N[j]? = some y) (hk : X.N[k]? = some z) (hij : i ≠ j) (hik : i ≠ k) (hjk : j ≠ k)
    (hx : X.env.scope.names.lookup x = some .local) (hy : X.env.scope.names.lookup y = some .local) (hz : X.env.scope.names.lookup z = some .local) (ha : PA X [a, b, c] (tA g W r))
    (hw : swappedStores [.Tuple [.Name x px, .Name y py, .Name z pz] kt pt] (.Tuple [a, b, c] k2 pt2) X.env = pure (some [x, y, z]))
    (hs : swapsWithSole [.Tuple [.Name x px, .Name y py, .Name z pz] kt pt] (.Tuple [a, b, c] k2 pt2) pos.line X.env = pure false := by rfl) :
    PS X (.Assign [.Tuple [.Name x px, .Name y py, .Name z pz] kt pt] (.Tuple [a, b, c] k2 pt2) pos) (tS g W (sPar [i, j, k] r)) := by
  refine PS_weak (ps_par3 hc hN hi hj hk hij hik hjk hx hy hz ha hw hs) ?_
  rintro E σv H ⟨F, ι, σ, h, hr, lr, p⟩
  refine tS_bind (f := parS [i, j, k]) hr lr p fun F1 ι1 H1 x h1 v l hr1 lr1 r1 p1 => ?_
  match x, r1, p1 with
  | [d1, d2, d3], r1, p1 =>
    simp only [VRs] at r1
    obtain ⟨v1, _, rfl, q1, v2, _, rfl, q2, v3, _, rfl, q3, rfl⟩ := r1
    exact ⟨v1, v2, v3, rfl, nxt p1 hr1 (((lr1.set q1).set q2).set q3)⟩
  | [], _, p1 => exact p1.elim
  | [_], _, p1 => exact p1.elim
  | [_, _], _, p1 => exact p1.elim
  | _ :: _ :: _ :: _ :: _, _, p1 => exact (by simp [parS] at p1; exact p1.elim)
end
end DV
end
section
set_option Elab.async false
set_option linter.all false
set_option maxRecDepth 100000
set_option maxHeartbeats 2000000
namespace DV
open PySem L2 PyProof.Rows

section
variable {X : Cx} {g : G} {W : WX} {st : Stmt} {rest a b : List Stmt} {e o i c value : Expr} {es : List Expr} {m mo mi ma mv : ME} {t : MT} {s r s1 s2 : MS} {pos pos' tpos : Pos}
/-! ### stores to fields -/
def putFd (f : Str) (d : D) : List (Str × D) → List (Str × D)
  | [] => [(f, d)]
  | (k, x) :: r => if k = f then (k, d) :: r else (k, x) :: putFd f d r
theorem VRf.put {F : Kn} {ι : List Addr} {f : Str} {d : D} {v : V} (rv : VR g F ι d v) : ∀ {fs : List (Str × D)} {ws : List (Str × V)}, VRf g F ι fs ws → VRf g F ι (putFd f d fs) (putF f v ws)
  | [], ws, r => by
    simp only [VRf] at r
    subst r
    simp only [putFd, putF, VRf]
    exact ⟨v, [], rfl, rv, rfl⟩
  | (k, x) :: fs, ws, r => by
    simp only [VRf] at r
    obtain ⟨y, us, rfl, q, r⟩ := r
    unfold putFd putF
    by_cases e : k = f
    · simp only [if_pos e, VRf]
      exact ⟨v, us, rfl, rv, r⟩
    · simp only [if_neg e, VRf]
      exact ⟨y, _, rfl, q, VRf.put rv r⟩
def putI (cs : List Nat) (f : Str) (x d : D) (h : AH) : Option AH :=
  match x with
  | .ref n => match h[n]? with
    | some (some (.ins c fs)) => if cs.contains c = true ∧ fs.length < 1000 then some (h.set n (some (.ins c (putFd f d fs)))) else none
    | _ => none
  | _ => none
theorem putI_ok (t : TiOk g) {cs : List Nat} {f : Str} {x d : D} {h h' : AH} {F : Kn} {ι : List Addr} {H : Hp} {v y : V} (hr : HR g F ι h H) (e : putI cs f x d h = some h') (rx : VR g F ι x v) (rd : VR g F ι d y) :
    ∃ a dx fs c, v = .ref a ∧ H a = some (.ins (g.cls c) dx fs) ∧ c ∈ cs ∧ fs.length < 1000 ∧ HR g F ι h' (upd H a (.ins (g.cls c) dx (putF f y fs))) := by
  cases x with
  | ref n =>
    simp only [VR] at rx
    obtain ⟨a, rfl, en⟩ := rx
    simp only [putI] at e
    split at e
    · rename_i c fs eo
      split at e
      · rename_i hc
        cases e
        obtain ⟨b, z, q1, q2, ⟨dx, ws, rfl, q3⟩, q4⟩ := hr.hp n _ eo
        rw [en] at q1
        cases q1
        refine ⟨a, dx, ws, c, rfl, q2, by simpa using hc.1, by rw [q3.length]; exact hc.2, ?_⟩
        exact hr.write t eo en (by rw [q2]; trivial) ⟨dx, _, rfl, VRf.put rd q3⟩
      · cases e
    · cases e
  | _ => cases e
def fldS (cs : List Nat) (f : Str) (mo : ME) (σ : AS) (d : D) (h : AH) : Rs := ofE σ (mo σ h) fun x h2 => match putI cs f x d h2 with | some h3 => .ok (.nx σ) h3 | none => .stuck
def sFldP (cs : List Nat) (f : Str) (mo mv : ME) : MS := fun σ h => ofE σ (mv σ h) (fldS cs f mo σ)
theorem sm_fld {f : Str} (cs : List Nat) (t : TiOk g) (hK : X.K = g.K) (hc : ∀ c ∈ cs, AttrOk g.K (g.cls c) f) (ho : PE X o (tE g W mo)) (hv : PE X value (tE g W mv)) (hs : swapsWith value (some (.Attribute o f pos')) pos.line X.env = pure false := by rfl) :
    PS X (.Assign [.Attribute o f pos'] value pos) (tS g W (sFldP cs f mo mv)) := by
  refine PS_weak (ps_fld ho hv hs) ?_
  rintro E σv H ⟨F, ι, σ, h, hr, lr, p⟩
  refine tS_bind (f := fldS cs f mo) hr lr p fun F1 ι1 H1 d h1 y l hr1 lr1 r1 p1 => ?_
  refine tS_bind (f := fun σ x h2 => match putI cs f x d h2 with | some h3 => .ok (.nx σ) h3 | none => .stuck) hr1 lr1 p1 fun F2 ι2 H2 x h2 v l2 hr2 lr2 r2 p2 => ?_
  split at p2
  · rename_i h3 ep
    obtain ⟨a, dx, fs, c, rfl, q1, q2, q3, q4⟩ := putI_ok t hr2 ep r2 (VR.mono l2 _ _ r1)
    obtain ⟨A1, A2⟩ := hc c q2
    exact ⟨a, _, dx, fs, rfl, q1, by rw [hK]; exact A1, by rw [hK]; exact A2, q3, nxt p2 q4 lr2⟩
  · exact p2.elim
/-! ### name op= e -/
def augS (f : D → D → AH → Rv D) (i : Nat) (x : D) (σ : AS) (y : D) (h : AH) : Rs := ofE σ (f x y h) fun z h2 => .ok (.nx (σ.set i (some z))) h2
def sAug (f : D → D → AH → Rv D) (i : Nat) (m : ME) : MS := fun σ h => match σ[i]? with
  | some (some x) => ofE σ (m σ h) (augS f i x σ)
  | _ => .stuck
theorem ofE_post {F : Kn} {ι : List Addr} {σ : AS} {σv : L2.St} {rv : Rv D} {f : D → AH → Rs} {E : Ends} {Q : VK} (lr : LR g F ι σ σv) (p : PostS g W F ι (ofE σ rv f) E)
    (k : ∀ F1 ι1 H1 a h1 v, Le F ι F1 ι1 → HR g F1 ι1 h1 H1 → LR g F1 ι1 σ σv → VR g F1 ι1 a v → PostS g W F1 ι1 (f a h1) E → Q v H1) : Post g W F ι σv (VR g) rv Q := by
  cases rv with
  | ok a h1 => exact fun F1 ι1 H1 v l hr1 r1 => k F1 ι1 H1 a h1 v l hr1 (lr.mono l) r1 (p.le l)
  | exc c h1 => exact fun F1 ι1 H1 l hr1 => p F1 ι1 H1 σv l hr1 (lr.mono l)
  | stuck => exact p
theorem sm_aug {i : Nat} {x : Str} {op : Operator} {ti : TIp} {f : D → D → AH → Rv D} (hN : X.N.Nodup) (hi : X.N[i]? = some x) (hx : Loc X.env.scope x) (he : PE X e (tE g W m)) (ho : PIp X op ti) (hk : OpOk g ti f) (hf : X.fn x = true ∨ X.env.scope.names.lookup x = some .local) :
    PS X (.AugAssign (.Name x pos') op e pos) (tS g W (sAug f i m)) := by
  refine PS_weak (ps_aug hN hi hx he ho hf) ?_
  rintro E σv H ⟨F, ι, σ, h, hr, lr, p⟩
  unfold sAug at p
  split at p
  · rename_i d ed
    obtain ⟨v, ev, rv⟩ := lr.2 i d ed
    refine ⟨v, ev, ?_⟩
    refine tS_bind (f := augS f i d) hr lr p fun F1 ι1 H1 y h1 u l hr1 lr1 r1 p1 => ?_
    refine hk W F1 ι1 h1 H1 σv d y v u _ hr1 (VR.mono l _ _ rv) r1 (ofE_post lr1 p1 fun F2 ι2 H2 z h2 w l2 hr2 lr2 r2 p2 => ?_)
    exact nxt p2 hr2 (lr2.set r2)
  · exact p.elim
/-! ### raise -/
def sRaise (c : Nat) : MS := fun σ h => .exc c σ h
theorem sm_raise {ci : Nat} {x z : Str} {j : Nat} {p1 p2 p3 : Pos} {bmB : List Value} {B newId initId : String} (hc : X.calm = true) (tk : Takes X W) (F : ExcBaseFacts B newId initId bmB) (q : PySem.W.excIn X.K (g.exc ci) bmB newId = true) (gC : X.mg x = some (.ref (g.exc ci)))
    (kC : PySem.W.keepIn X.K (.ref (g.exc ci)) = true) (r : Raises X (.ref (g.exc ci))) (hg : Gl X x) (hdb : (x == ("__debug__" : Str)) = false := by decide) :
    PS X (.Raise (some (.Call (.Name x p1) [.Constant (.str z) j p2] [] p3)) none pos) (tS g W (sRaise ci)) := by
  refine PS_weak (ps_raise hc tk (pmk_own F q gC kC r hg hdb)) ?_
  rintro E σv H ⟨F, ι, σ, h, hr, lr, p⟩
  exact p F ι H σv .refl hr lr
end
end DV
end
section
set_option Elab.async false
set_option linter.all false
set_option maxRecDepth 100000
set_option maxHeartbeats 2000000
namespace DV
open PySem L2 PyProof.Rows

/-! ### what is walked -/
inductive Stp where
  | stop | go (d : D) | bad
abbrev IT := Nat → AH → Stp
def JR (g : G) (F : Kn) (ι : List Addr) (it : IT) (J : It) : Prop := ∀ (F' : Kn) (ι' : List Addr) (i : Nat) (h : AH) (H : Hp), Lf F ι F' ι' → HR g F' ι' h H →
  match it i h with
  | .stop => J.stop i H
  | .go d => J.go i H ∧ ∀ x H', J.yld i H x H' → ∃ F2, Le F' ι' F2 ι' ∧ HR g F2 ι' h H' ∧ VR g F2 ι' d x
  | .bad => True
theorem JR.monoF {g : G} {F F1 : Kn} {ι ι1 : List Addr} {it : IT} {J : It} (l : Lf F ι F1 ι1) (r : JR g F ι it J) : JR g F1 ι1 it J := fun F' ι' i h H l' hr => r F' ι' i h H (l.trans l') hr
abbrev MI := AS → AH → Rv IT
abbrev tI (g : G) (W : WX) (m : MI) : TI := tM g W (JR g) m
section
variable {X : Cx} {g : G} {W : WX} {st : Stmt} {rest a b body : List Stmt} {tg e o i c value l iter : Expr} {es : List Expr} {m mo mi ma mv : ME} {t : MT} {s r s1 s2 : MS} {pos pos' tpos p : Pos}
theorem PI_weak {t t' : TI} (h : PI X tg l t) (k : ∀ σ H R, t' σ H R → t σ H R) : PI X tg l t' := ⟨fun pins s σ H R I q => h.run pins s σ H R I (k σ H R q)⟩
def itSeq (ds : List D) : IT := fun i _ => match ds[i]? with | some d => .go d | none => .stop
/-- the list d, as it stands at each turn -/
def itOf (d : D) : IT := fun i h => match getL h d with | some ds => itSeq ds i h | none => .bad
def itTup (d : D) : IT := fun i h => match d with | .tup ds => itSeq ds i h | _ => .bad
theorem sqL_inj {F : Kn} {ι : List Addr} {h : AH} {H : Hp} {d : D} {a : Addr} {ds : List D} (hr : HR g F ι h H) (e : getL h d = some ds) (rv : VR g F ι d (.ref a)) : ∃ vs, SqL g.K H a vs ∧ VRs g F ι ds vs := by
  obtain ⟨b, vs, z, q1, q2⟩ := getL_ok hr e rv
  cases z
  exact ⟨vs, q1, q2⟩
theorem jr_list {F : Kn} {ι : List Addr} {d : D} {a : Addr} (rv : VR g F ι d (.ref a)) : JR g F ι (itOf d) (Itl g.K a) := by
  intro F' ι' i h H l hr
  unfold itOf
  cases e : getL h d with
  | none => trivial
  | some ds =>
    obtain ⟨vs, q1, q2⟩ := sqL_inj hr e (VR.monoF l _ _ rv)
    have hs : SqL g.K H a vs := q1
    show match itSeq ds i h with | .stop => _ | .go d => _ | .bad => True
    unfold itSeq
    cases e : ds[i]? with
    | none => exact ⟨vs, hs, by rw [q2.length]; exact List.getElem?_eq_none_iff.mp e⟩
    | some d =>
      obtain ⟨y, z1, z2⟩ := q2.get e
      refine ⟨⟨vs, y, hs, z1⟩, fun x H' hy => ?_⟩
      obtain ⟨rfl, hy⟩ := hy
      have z := hy vs hs
      rw [z1] at z
      cases z
      exact ⟨F', .refl, hr, z2⟩
theorem jr_tup {F : Kn} {ι : List Addr} {d : D} {a : Addr} (rv : VR g F ι d (.ref a)) : JR g F ι (itTup d) (Itt g.K a) := by
  intro F' ι' i h H l hr
  unfold itTup
  cases d with
  | tup ds =>
    obtain ⟨b, vs, z, hs, q2⟩ := tup_ok hr (VR.monoF l _ _ rv)
    cases z
    show match itSeq ds i h with | .stop => _ | .go d => _ | .bad => True
    unfold itSeq
    cases e : ds[i]? with
    | none => exact ⟨vs, hs, by rw [q2.length]; exact List.getElem?_eq_none_iff.mp e⟩
    | some d =>
      obtain ⟨y, z1, z2⟩ := q2.get e
      refine ⟨⟨vs, y, hs, z1⟩, fun x H' hy => ?_⟩
      obtain ⟨rfl, hy⟩ := hy
      have z := hy vs hs
      rw [z1] at z
      cases z
      exact ⟨F', .refl, hr, z2⟩
  | _ => trivial

/-! an iterable by its value -/
def PIV (X : Cx) (tg : Expr) (t : V → Hp → (It → Hp → Prop) → Prop) : Prop :=
  ∀ (pins : List (Addr × Obj)) (s : Shared) (σ : L2.St) (H : Hp) (x : V) (v : Value) (R : It → Hp → Prop), L2.Inv X pins σ H s → L2.RelV x v → t x H R → wpAny (model X.prog X.w) X.A (pyIter v) (PIE X pins σ tg R) X.xe s
theorem pi_val {tl : TE} {t : V → Hp → (It → Hp → Prop) → Prop} (hl : PE X l tl) (hv : PIV X tg t) : PI X tg l (fun σ H R => tl σ H fun x H1 => t x H1 R) :=
  ⟨fun pins s σ H R I h => thn (hl.run pins s σ H _ I h) fun v s1 ⟨x, H1, I1, r1, q1⟩ => hv pins s1 σ H1 x v R I1 r1 q1⟩
theorem PIV.or {t u : V → Hp → (It → Hp → Prop) → Prop} (a : PIV X tg t) (b : PIV X tg u) : PIV X tg (fun x H R => t x H R ∨ u x H R) := fun pins s σ H x v R I r h =>
  h.elim (a pins s σ H x v R I r) (b pins s σ H x v R I r)
def vList (K : PySem.W.Frag) : V → Hp → (It → Hp → Prop) → Prop := fun x H R => ∃ a, x = .ref a ∧ (∃ xs, SqL K H a xs) ∧ R (Itl K a) H
def vTup (K : PySem.W.Frag) : V → Hp → (It → Hp → Prop) → Prop := fun x H R => ∃ a, x = .ref a ∧ (∃ xs, SqT K H a xs) ∧ R (Itt K a) H
def vStr : V → Hp → (It → Hp → Prop) → Prop := fun x H R => ∃ z, x = .str z ∧ R (Its z) H
theorem pv_list : PIV X tg (vList X.K) := by
  intro pins s σ H x v R I r h
  obtain ⟨a, rfl, ⟨xs, hq⟩, q⟩ := h
  cases r
  obtain ⟨its, rv, p, hz⟩ := I.list hq
  refine wpAny_pyIter_list p.isList ?_
  refine ⟨s.heap.objs.size, [s.heap.objs.size], _, _, H, rfl, I.kept (t' := s.toks) fun b o e => Heap.get?_push_of_some _ e, turn_list a _, ⟨_, Heap.get?_push_size _ rfl, rfl, rfl⟩, fun b hb => ?_, q⟩
  have e : b = s.heap.objs.size := by simpa using hb
  subst e
  exact I.fpOk (Nat.le_refl _) (I.hok.fresh (Nat.le_refl _))
theorem pv_tup : PIV X tg (vTup X.K) := by
  intro pins s σ H x v R I r h
  obtain ⟨a, rfl, ⟨xs, hq⟩, q⟩ := h
  cases r
  obtain ⟨its, rv, p, hz⟩ := I.tuple hq
  refine wpAny_pyIter_tuple (show s.heap.IsTuple a its.toArray from p) ?_
  refine ⟨s.heap.objs.size, [s.heap.objs.size], _, _, H, rfl, I.kept (t' := s.toks) fun b o e => Heap.get?_push_of_some _ e, turn_tuple a _, ⟨_, Heap.get?_push_size _ rfl, rfl, rfl⟩, fun b hb => ?_, q⟩
  have e : b = s.heap.objs.size := by simpa using hb
  subst e
  exact I.fpOk (Nat.le_refl _) (I.hok.fresh (Nat.le_refl _))
/-- a list or a tuple -/
def itLT (d : D) (h : AH) : Rv IT :=
  match d with
  | .tup ds => .ok (itSeq ds) h
  | d => match getL h d with
    | some _ => .ok (itOf d) h
    | none => .stuck
def miLT (m : ME) : MI := fun σ h => bindR (m σ h) itLT
theorem lt_ok {F : Kn} {ι : List Addr} {h : AH} {H : Hp} {σv : L2.St} {x : D} {v : V} {R : It → Hp → Prop} (hr : HR g F ι h H) (rv : VR g F ι x v) (p : Post g W F ι σv (JR g) (itLT x h) R) : vList g.K v H R ∨ vTup g.K v H R := by
  have big : (match getL h x with | some _ => Rv.ok (itOf x) h | none => .stuck) = itLT x h → vList g.K v H R := fun e => by
    rw [← e] at p
    split at p
    · rename_i ds e1
      obtain ⟨a, vs, rfl, q1, q2⟩ := getL_ok hr e1 rv
      exact ⟨a, rfl, ⟨vs, q1⟩, p F ι H _ .refl hr (jr_list rv)⟩
    · exact p.elim
  cases x with
  | tup ds =>
    obtain ⟨a, vs, rfl, q1, q2⟩ := tup_ok hr rv
    exact .inr ⟨a, rfl, ⟨vs, q1⟩, p F ι H _ .refl hr (jr_tup rv)⟩
  | _ => exact .inl (big rfl)
theorem im_LT (hK : X.K = g.K) (hl : PE X l (tE g W m)) : PI X tg l (tI g W (miLT m)) := by
  refine PI_weak (pi_val hl (pv_list.or pv_tup)) ?_
  rintro σv H R ⟨F, ι, σ, h, hr, lr, p⟩
  refine tM_bind (f := fun _ => itLT) hr lr p fun F1 ι1 H1 x h1 v l hr1 lr1 r1 p1 => ?_
  rw [hK]
  exact lt_ok hr1 r1 p1
/-! ranges -/
def itRg (lo c : Int) (n : Nat) : IT := fun i _ => if i < n then .go (.int (lo + i * c)) else .stop
theorem jr_rg {F : Kn} {ι : List Addr} {lo : Int} {n : Nat} : JR g F ι (itRg lo 1 n) (Itr lo n) := by
  intro F' ι' i h H l hr
  unfold itRg
  by_cases hi : i < n
  · rw [if_pos hi]
    refine ⟨hi, fun x H' hy => ?_⟩
    obtain ⟨rfl, rfl⟩ := hy
    exact ⟨F', .refl, hr, by simp [VR]⟩
  · rw [if_neg hi]
    exact Nat.le_of_not_lt hi
theorem jr_rgc {F : Kn} {ι : List Addr} {lo c : Int} {n : Nat} : JR g F ι (itRg lo c n) (Itc lo c n) := by
  intro F' ι' i h H l hr
  unfold itRg
  by_cases hi : i < n
  · rw [if_pos hi]
    refine ⟨hi, fun x H' hy => ?_⟩
    obtain ⟨rfl, rfl⟩ := hy
    exact ⟨F', .refl, hr, by simp [VR]⟩
  · rw [if_neg hi]
    exact Nat.le_of_not_lt hi
def rgB (j : Int) : Prop := -(2 ^ 62) ≤ j ∧ j < 2 ^ 62
instance (j : Int) : Decidable (rgB j) := by unfold rgB; exact inferInstance
def rg1D (ds : List D) (h : AH) : Rv IT := match ds with | [.int j] => if rgB j then .ok (itRg 0 1 j.toNat) h else .stuck | _ => .stuck
def rg2D (ds : List D) (h : AH) : Rv IT := match ds with | [.int i, .int j] => if rgB i ∧ rgB j then .ok (itRg i 1 (j - i).toNat) h else .stuck | _ => .stuck
def miCall (f : List D → AH → Rv IT) (r : MA) : MI := fun σ h => bindR (r σ h) f
theorem im_rg1 {r : MA} {a1 : Expr} (hg : Gl X "range") (hm : X.mg "range" = none) (ha : PA X [a1] (tA g W r)) (hs : starEach [a1] X.env = [(false, eval a1 X.env)] := by rfl) : PI X tg (.Call (.Name "range" p) [a1] [] pos) (tI g W (miCall rg1D r)) := by
  refine PI_weak (pi_range1 hg hm ha hs) ?_
  rintro σv H R ⟨F, ι, σ, h, hr, lr, p⟩
  refine tM_bind (f := fun _ => rg1D) hr lr p fun F1 ι1 H1 x h1 v l hr1 lr1 r1 p1 => ?_
  unfold rg1D at p1
  split at p1
  · rename_i j
    split at p1
    · rename_i hj
      simp only [VRs] at r1
      obtain ⟨v1, _, rfl, q1, rfl⟩ := r1
      exact ⟨j, by rw [q1.int'], hj.1, hj.2, p1 F1 ι1 H1 _ .refl hr1 jr_rg⟩
    · exact p1.elim
  · exact p1.elim
theorem im_rg2 {r : MA} {a1 a2 : Expr} (hg : Gl X "range") (hm : X.mg "range" = none) (ha : PA X [a1, a2] (tA g W r)) (hs : starEach [a1, a2] X.env = [(false, eval a1 X.env), (false, eval a2 X.env)] := by rfl) (hs2 : starEach [a2] X.env = [(false, eval a2 X.env)] := by rfl) :
    PI X tg (.Call (.Name "range" p) [a1, a2] [] pos) (tI g W (miCall rg2D r)) := by
  refine PI_weak (pi_range2 hg hm ha hs hs2) ?_
  rintro σv H R ⟨F, ι, σ, h, hr, lr, p⟩
  refine tM_bind (f := fun _ => rg2D) hr lr p fun F1 ι1 H1 x h1 v l hr1 lr1 r1 p1 => ?_
  unfold rg2D at p1
  split at p1
  · rename_i i j
    split at p1
    · rename_i hj
      simp only [VRs] at r1
      obtain ⟨v1, _, rfl, q1, v2, _, rfl, q2, rfl⟩ := r1
      exact ⟨i, j, by rw [q1.int', q2.int'], ⟨hj.1.1, hj.1.2, hj.2.1, hj.2.2⟩, p1 F1 ι1 H1 _ .refl hr1 jr_rg⟩
    · exact p1.elim
  · exact p1.elim
end

/-! ### loops -/
def loopS (r : Rs) (f : AS → AH → Rs) : Rs :=
  match r with
  | .ok (.nx σ) h => f σ h
  | .ok (.ct σ) h => f σ h
  | .ok (.bk σ) h => .ok (.nx σ) h
  | r => r
def whileN (t : MT) (s : MS) : Nat → AS → AH → Rs
  | 0, _, _ => .stuck
  | n + 1, σ, h => ofE σ (t σ h) fun k h1 => if k = true then loopS (s σ h1) (whileN t s n) else .ok (.nx σ) h1
def bigN : Nat := 2 ^ 40
def sWhile (t : MT) (s : MS) : MS := whileN t s bigN
def forN (it : IT) (mg : MG) (s : MS) : Nat → Nat → AS → AH → Rs
  | 0, _, _, _ => .stuck
  | n + 1, i, σ, h => match it i h with
    | .stop => .ok (.nx σ) h
    | .bad => .stuck
    | .go d => match mg d σ h with
      | .ok σ1 h1 => loopS (s σ1 h1) (forN it mg s n (i + 1))
      | _ => .stuck
def sFor (mi : MI) (mg : MG) (s : MS) : MS := fun σ h => ofE σ (mi σ h) fun it h1 => forN it mg s bigN 0 σ h1
section
variable {X : Cx} {g : G} {W : WX} {st : Stmt} {rest a b body : List Stmt} {tg e o i c value l iter : Expr} {es : List Expr} {m mo mi' ma mv : ME} {t : MT} {s r s1 s2 : MS} {pos pos' tpos p : Pos} {mi : MI} {mg : MG} {is : List Nat}
theorem loop_ends {E : Ends} {F : Kn} {ι : List Addr} {σ : AS} {h : AH} {σv : L2.St} {H : Hp} {f : AS → AH → Rs} {N : L2.St → Hp → Prop} (hr : HR g F ι h H) (lr : LR g F ι σ σv) (p : PostS g W F ι (loopS (s σ h) f) E)
    (k : ∀ F1 ι1 σ1 h1 σv1 H1, Le F ι F1 ι1 → HR g F1 ι1 h1 H1 → LR g F1 ι1 σ1 σv1 → PostS g W F1 ι1 (f σ1 h1) E → N σv1 H1) : tS g W s { E with nx := N, ct := N, bk := E.nx } σv H := by
  refine ⟨F, ι, σ, h, hr, lr, ?_⟩
  revert p
  cases s σ h with
  | ok fl h1 =>
    cases fl with
    | nx σ1 => exact fun p F1 ι1 H1 l hr1 σv1 lr1 => k F1 ι1 σ1 h1 σv1 H1 l hr1 lr1 (p.le l)
    | ct σ1 => exact fun p F1 ι1 H1 l hr1 σv1 lr1 => k F1 ι1 σ1 h1 σv1 H1 l hr1 lr1 (p.le l)
    | bk σ1 => exact fun p F1 ι1 H1 l hr1 σv1 lr1 => p F1 ι1 H1 l hr1 σv1 lr1
    | rt d => exact fun p F1 ι1 H1 l hr1 v rv => p F1 ι1 H1 l hr1 v rv
  | exc c σ1 h1 => exact fun p => p
  | stuck => exact fun p => p
theorem sm_while (hp : PassesOwn (model X.prog X.w) X.A X.env X.xe) (hc : PT X c (tT g W t)) (hb : PSs X body (tS g W s)) : PS X (.While c body [] pos) (tS g W (sWhile t s)) := by
  refine PS_weak (ps_while hp hc hb) ?_
  rintro E σv H ⟨F, ι, σ, h, hr, lr, p⟩
  refine ⟨fun m σv H => ∃ F ι σ h, HR g F ι h H ∧ LR g F ι σ σv ∧ PostS g W F ι (whileN t s m σ h) E, ⟨bigN, F, ι, σ, h, hr, lr, p⟩, ?_⟩
  rintro m σv H ⟨F, ι, σ, h, hr, lr, p⟩
  cases m with
  | zero => exact p.elim
  | succ n =>
    refine tS_bind (f := fun σ k h1 => if k = true then loopS (s σ h1) (whileN t s n) else .ok (.nx σ) h1) hr lr p fun F1 ι1 H1 k h1 v l hr1 lr1 r1 p1 => ?_
    subst r1
    by_cases hk : v = true
    · rw [if_pos hk] at p1 ⊢
      refine ⟨fun σ' H' => ∃ F ι σ h, HR g F ι h H' ∧ LR g F ι σ σ' ∧ PostS g W F ι (whileN t s n σ h) E, fun σ' H' w => ⟨n, Nat.lt_succ_self n, w⟩, ?_⟩
      exact loop_ends hr1 lr1 p1 fun F2 ι2 σ2 h2 σv2 H2 l2 hr2 lr2 p2 => ⟨F2, ι2, σ2, h2, hr2, lr2, p2⟩
    · rw [if_neg hk] at p1 ⊢
      exact nxt p1 hr1 lr1
theorem sm_for (hp : PassesOwn (model X.prog X.w) X.A X.env X.xe) (hc : X.calm = true) (hi : PI X tg iter (tI g W mi)) (hg : PG X tg (tG g W is mg)) (hb : PSs X body (tS g W s)) (hs : ∀ x, foldedSetIterable iter X.env x = pure x := by intro _; rfl) :
    PS X (.For tg iter body [] pos) (tS g W (sFor mi mg s)) := by
  refine PS_weak (ps_for hp hc hi hg hb hs) ?_
  rintro E σv H ⟨F, ι, σ, h, hr, lr, p⟩
  refine tS_bind (f := fun σ it h1 => forN it mg s bigN 0 σ h1) hr lr p fun F1 ι1 H1 it h1 J l hr1 lr1 r1 p1 => ?_
  refine ⟨fun i m σv H => ∃ F ι σ h, Le F1 ι1 F ι ∧ HR g F ι h H ∧ LR g F ι σ σv ∧ PostS g W F ι (forN it mg s m i σ h) E, ⟨bigN, F1, ι1, σ, h1, .refl, hr1, lr1, p1⟩, ?_⟩
  rintro i m σv H ⟨F, ι, σ, h, l, hr, lr, p⟩
  cases m with
  | zero => exact p.elim
  | succ n =>
    have hj := r1 F ι i h H l.toLf hr
    unfold forN at p
    revert p hj
    cases it i h with
    | stop => exact fun hj p => .inl ⟨hj, nxt p hr lr⟩
    | bad => exact fun _ p => p.elim
    | go d =>
      intro hj p
      obtain ⟨go, yld⟩ := hj
      refine .inr ⟨go, fun σ' H' => ∃ F ι σ h, Le F1 ι1 F ι ∧ HR g F ι h H' ∧ LR g F ι σ σ' ∧ PostS g W F ι (forN it mg s n (i + 1) σ h) E, fun σ' H' w => ⟨n, Nat.lt_succ_self n, w⟩, fun x H' hy => ?_⟩
      obtain ⟨F2, l2, hr2, r2⟩ := yld x H' hy
      refine ⟨F2, ι, σ, h, d, hr2, lr.mono l2, r2, ?_⟩
      revert p
      dsimp only
      cases mg d σ h with
      | ok σ3 h3 => exact fun p F3 ι3 H3 σv3 l3 hr3 lr3 _ => loop_ends hr3 lr3 (p.le (l2.trans l3)) fun F4 ι4 σ4 h4 σv4 H4 l4 hr4 lr4 p4 => ⟨F4, ι4, σ4, h4, l.trans (l2.trans (l3.trans l4)), hr4, lr4, p4⟩
      | exc c h3 => exact fun p => p.elim
      | stuck => exact fun p => p.elim
end
end DV
end
section
set_option Elab.async false
set_option linter.all false
set_option maxRecDepth 100000
set_option maxHeartbeats 2000000
namespace DV
open PySem L2 PyProof.Rows

/-! ### things held apart -/
def Kn.hold (F : Kn) (q : Addr × HO) : Kn := ⟨F.f, q :: F.pr⟩
section
variable {g : G} {F F1 : Kn} {ι ι1 : List Addr} {h : AH} {H : Hp}
theorem Lf.hold {q : Addr × HO} : Lf F ι (F.hold q) ι := ⟨fun _ _ e => e, [], by simp⟩
theorem Lf.pr {f : Addr → Option HO} {p p' : List (Addr × HO)} : Lf ⟨f, p⟩ ι ⟨f, p'⟩ ι := ⟨fun _ _ e => e, [], by simp⟩
theorem HR.hold (t : TiOk g) (r : HR g F ι h H) {p : Addr} (hp : H p = none) (o : HO) (hnt : ∃ xs, o = HO.lst xs := by exact ⟨_, rfl⟩) : HR g (F.hold (p, o)) ι h (upd H p o) := by
  refine ⟨fun a u e => ?_, fun n u e => ?_, r.inj, r.len, t.upd _ _ _ r.ti (.inl hp), fun q hq => ?_, fun q hq => (List.mem_cons.mp hq).elim (fun z => by rw [z]; exact hnt) (r.pt q)⟩
  · have ha : a ≠ p := by
      rintro rfl
      have z : F a = some u := e
      rw [r.free hp] at z
      cases z
    unfold Std
    rw [upd_ne ha]
    exact r.fr a u e
  · obtain ⟨a, x, e1, e2, e3, e4⟩ := r.hp n u e
    exact ⟨a, x, e1, by rw [upd_ne (ne_of_none e2 hp)]; exact e2, e3.monoF Lf.hold, e4⟩
  · rcases List.mem_cons.mp hq with rfl | hq
    · refine ⟨upd_same, r.free hp, fun n u e z => ?_⟩
      obtain ⟨a, x, e1, e2, e3, e4⟩ := r.hp n u e
      rw [z] at e1
      cases e1
      rw [hp] at e2
      cases e2
    · obtain ⟨q1, q2, q3⟩ := r.pv q hq
      exact ⟨by rw [upd_ne (ne_of_none q1 hp)]; exact q1, q2, q3⟩
/-- what is held apart is written -/
theorem HR.held {f : Addr → Option HO} {p : Addr} {o o' : HO} {P : List (Addr × HO)} (t : TiOk g) (r : HR g ⟨f, (p, o) :: P⟩ ι h H) (hw : Wr (some o)) (hP : ∀ q ∈ P, q.1 ≠ p) (hnt : ∃ xs, o' = HO.lst xs := by exact ⟨_, rfl⟩) : HR g ⟨f, (p, o') :: P⟩ ι h (upd H p o') := by
  obtain ⟨p1, p2, p3⟩ := r.pv (p, o) List.mem_cons_self
  refine ⟨fun a u e => ?_, fun n u e => ?_, r.inj, r.len, t.upd _ _ _ r.ti (.inr (by rw [p1]; exact hw)), fun q hq => ?_, fun q hq => (List.mem_cons.mp hq).elim (fun z => by rw [z]; exact hnt) fun z => r.pt q (List.mem_cons_of_mem _ z)⟩
  · have ha : a ≠ p := by
      rintro rfl
      have z : f a = some u := e
      have z2 : f a = none := p2
      rw [z2] at z
      cases z
    unfold Std
    rw [upd_ne ha]
    exact r.fr a u e
  · obtain ⟨a, x, e1, e2, e3, e4⟩ := r.hp n u e
    have ha : a ≠ p := by
      rintro rfl
      exact p3 n u e e1
    exact ⟨a, x, e1, by rw [upd_ne ha]; exact e2, e3.monoF Lf.pr, e4⟩
  · rcases List.mem_cons.mp hq with rfl | hq
    · exact ⟨upd_same, p2, p3⟩
    · obtain ⟨q1, q2, q3⟩ := r.pv q (List.mem_cons_of_mem _ hq)
      exact ⟨by rw [upd_ne (hP q hq)]; exact q1, q2, q3⟩
/-- .. becomes known -/
theorem HR.unheld {f : Addr → Option HO} {p : Addr} {o : HO} {P : List (Addr × HO)} (r : HR g ⟨f, (p, o) :: P⟩ ι h H) (hP : ∀ q ∈ P, q.1 ≠ p) : HR g ⟨upd f p o, P⟩ ι h H ∧ f p = none := by
  obtain ⟨p1, p2, p3⟩ := r.pv (p, o) List.mem_cons_self
  have p2' : f p = none := p2
  have lf : Lf ⟨f, (p, o) :: P⟩ ι ⟨upd f p o, P⟩ ι := ⟨fun a u e => by
    have e' : f a = some u := e
    show upd f p o a = some u
    rw [upd_ne (ne_of_none (H := f) e' p2')]
    exact e', [], by simp⟩
  refine ⟨⟨fun a u e => ?_, fun n u e => ?_, r.inj, r.len, r.ti, fun q hq => ?_, fun q hq => r.pt q (List.mem_cons_of_mem _ hq)⟩, p2'⟩
  · have e' : upd f p o a = some u := e
    by_cases ha : a = p
    · rw [ha, upd_same] at e'
      cases e'
      rw [ha]
      exact .inl ⟨p1, fun ps z => by obtain ⟨xs, hx⟩ := r.pt (p, o) List.mem_cons_self; have hx : o = HO.lst xs := hx; rw [hx] at z; cases z⟩
    · rw [upd_ne ha] at e'
      exact r.fr a u e'
  · obtain ⟨a, x, e1, e2, e3, e4⟩ := r.hp n u e
    have ha : a ≠ p := by
      rintro rfl
      exact p3 n u e e1
    refine ⟨a, x, e1, e2, e3.monoF lf, ?_⟩
    show upd f p o a = none
    rw [upd_ne ha]
    exact e4
  · obtain ⟨q1, q2, q3⟩ := r.pv q (List.mem_cons_of_mem _ hq)
    refine ⟨q1, ?_, q3⟩
    show upd f p o q.1 = none
    rw [upd_ne (hP q hq)]
    exact q2
/-- .. becomes a thing of the plain heap -/
theorem HR.unheldO {f : Addr → Option HO} {p : Addr} {x : HO} {o : O} {P : List (Addr × HO)} (r : HR g ⟨f, (p, x) :: P⟩ ι h H) (hP : ∀ q ∈ P, q.1 ≠ p) (ho : OR g ⟨f, P⟩ ι o x) : HR g ⟨f, P⟩ (ι ++ [p]) (h ++ [some o]) H := by
  obtain ⟨p1, p2, p3⟩ := r.pv (p, x) List.mem_cons_self
  have hl := r.len
  have lf : Lf ⟨f, (p, x) :: P⟩ ι ⟨f, P⟩ (ι ++ [p]) := ⟨fun a u e => e, [p], rfl⟩
  have lf2 : Lf ⟨f, P⟩ ι ⟨f, P⟩ (ι ++ [p]) := ⟨fun a u e => e, [p], rfl⟩
  have old : ∀ {n : Nat} {u : O}, (h ++ [some o])[n]? = some (some u) → (n < h.length ∧ h[n]? = some (some u)) ∨ (n = h.length ∧ u = o) := by
    intro n u e
    by_cases hn : n < h.length
    · rw [List.getElem?_append_left hn] at e
      exact .inl ⟨hn, e⟩
    · rw [List.getElem?_append_right (by omega)] at e
      by_cases hz : n - h.length = 0
      · rw [hz] at e
        simp at e
        exact .inr ⟨by omega, e.symm⟩
      · rw [List.getElem?_eq_none (by simp; omega)] at e
        cases e
  have iold : ∀ {n : Nat} {a : Addr}, n < h.length → (ι ++ [p])[n]? = some a → ι[n]? = some a := by
    intro n a hn e
    rwa [List.getElem?_append_left (by omega)] at e
  have inew : ∀ {a : Addr}, (ι ++ [p])[h.length]? = some a → a = p := by
    intro a e
    rw [← hl] at e
    simp at e
    exact e.symm
  refine ⟨r.fr, fun n u e => ?_, fun n m a hn hm en em => ?_, by simp [hl], r.ti, fun q hq => ?_, fun q hq => r.pt q (List.mem_cons_of_mem _ hq)⟩
  · rcases old e with ⟨hn, e⟩ | ⟨hn, rfl⟩
    · obtain ⟨a, y, e1, e2, e3, e4⟩ := r.hp n u e
      exact ⟨a, y, lf.at e1, e2, e3.monoF lf, e4⟩
    · rw [hn, ← hl]
      exact ⟨p, x, by simp, p1, ho.monoF lf2, p2⟩
  · obtain ⟨u, hn⟩ := hn
    obtain ⟨u', hm⟩ := hm
    rcases old hn with ⟨n1, e1⟩ | ⟨n1, rfl⟩ <;> rcases old hm with ⟨m1, e2⟩ | ⟨m1, rfl⟩
    · exact r.inj n m a ⟨_, e1⟩ ⟨_, e2⟩ (iold n1 en) (iold m1 em)
    · rw [m1] at em
      have z := inew em
      exact (p3 n _ e1 (by rw [iold n1 en, z])).elim
    · rw [n1] at en
      have z := inew en
      exact (p3 m _ e2 (by rw [iold m1 em, z])).elim
    · omega
  · obtain ⟨q1, q2, q3⟩ := r.pv q (List.mem_cons_of_mem _ hq)
    refine ⟨q1, q2, fun n u e z => ?_⟩
    rcases old e with ⟨hn, e⟩ | ⟨hn, rfl⟩
    · exact q3 n u e (iold hn z)
    · rw [hn] at z
      exact hP q hq (inew z)
end

/-! ### comprehensions -/
def wipeA (σ : AS) : List Nat → AS
  | [] => σ
  | v :: vs => (wipeA σ vs).set v none
theorem wipe_get {σ : L2.St} : ∀ {vs : List Nat} {j : Nat}, (wipe σ vs)[j]? = if j ∈ vs then (if j < σ.length then some none else none) else σ[j]?
  | [], j => by simp [wipe]
  | v :: vs, j => by
    unfold wipe
    by_cases hj : v = j
    · subst hj
      by_cases hl : v < σ.length
      · rw [List.getElem?_set_self (by rw [wipe_length]; exact hl)]; simp [hl]
      · rw [List.getElem?_eq_none (by simp [wipe_length]; omega)]; simp [hl]
    · rw [List.getElem?_set_ne hj, wipe_get]
      have : j ∈ v :: vs ↔ j ∈ vs := by simp [Ne.symm hj]
      simp only [this]
theorem wipeA_length (σ : AS) : ∀ vs : List Nat, (wipeA σ vs).length = σ.length
  | [] => rfl
  | v :: vs => by unfold wipeA; rw [List.length_set, wipeA_length σ vs]
theorem wipeA_some {σ : AS} {i : Nat} {x : D} : ∀ {vs : List Nat}, (wipeA σ vs)[i]? = some (some x) → σ[i]? = some (some x) ∧ i ∉ vs
  | [], h => ⟨h, by simp⟩
  | v :: vs, h => by
    unfold wipeA at h
    by_cases hi : v = i
    · subst hi
      by_cases hv : v < (wipeA σ vs).length
      · rw [List.getElem?_set_self hv] at h; cases h
      · rw [List.getElem?_eq_none (by simpa using hv)] at h; cases h
    · rw [List.getElem?_set_ne hi] at h
      obtain ⟨h1, h2⟩ := wipeA_some h
      exact ⟨h1, by simp only [List.mem_cons, not_or]; exact ⟨fun e => hi e.symm, h2⟩⟩
theorem wipe_same {is vs : List Nat} {σ σ' : L2.St} (sb : SameBut is σ σ') (hs : ∀ i ∈ is, i ∈ vs) : wipe σ' vs = wipe σ vs := by
  apply List.ext_getElem?
  intro j
  rw [wipe_get, wipe_get, sb.1]
  by_cases hj : j ∈ vs
  · simp [hj]
  · simp only [hj, if_false]
    exact sb.2 j fun z => hj (hs j z)
theorem wipe_same2 {is vs : List Nat} {σ σ' : L2.St} (sb : SameBut is (wipe σ vs) σ') (hs : ∀ i ∈ is, i ∈ vs) : wipe σ' vs = wipe σ vs := by
  rw [wipe_same sb hs]
  apply List.ext_getElem?
  intro j
  rw [wipe_get, wipe_get, wipe_length]
  by_cases hj : j ∈ vs
  · simp [hj]
  · simp [hj, wipe_get]
theorem LR.wipe {g : G} {F : Kn} {ι : List Addr} {σ : AS} {σv : L2.St} (lr : LR g F ι σ σv) (vs : List Nat) : LR g F ι (wipeA σ vs) (L2.wipe σv vs) := by
  refine ⟨by rw [wipeA_length, wipe_length]; exact lr.1, fun i d e => ?_⟩
  obtain ⟨e1, e2⟩ := wipeA_some e
  obtain ⟨v, q1, q2⟩ := lr.2 i d e1
  refine ⟨v, ?_, q2⟩
  rw [wipe_get, if_neg e2]
  exact q1
abbrev W0 : WX := fun _ _ _ _ => False
def mYes : MT := fun _ h => .ok true h
/-- nothing is let out -/
def noX {α : Type} (r : Rv α) : Rv α := match r with | .exc _ _ => .stuck | r => r
def compN (it : IT) (mg : MG) (mt : MT) (me : ME) : Nat → Nat → AS → List D → AH → Rv (List D)
  | 0, _, _, _, _ => .stuck
  | n + 1, i, σ, acc, h => match it i h with
    | .stop => .ok acc h
    | .bad => .stuck
    | .go d => match mg d σ h with
      | .ok σ1 h1 => bindR (noX (mt σ1 h1)) fun k h2 => if k = true then bindR (noX (me σ1 h2)) fun y h3 => if acc.length < sizeLine then compN it mg mt me n (i + 1) σ (acc ++ [y]) h3 else .stuck
          else compN it mg mt me n (i + 1) σ acc h2
      | _ => .stuck
def mLc (mu : Bool) (mi : MI) (vs : List Nat) (mg : MG) (mt : MT) (me : ME) : ME := fun σ h => bindR (mi σ h) fun it h1 => bindR (compN it mg mt me bigN 0 (wipeA σ vs) [] h1) (mkL mu)
section
variable {X : Cx} {g : G} {W : WX} {F : Kn} {ι : List Addr} {mi : MI} {mg : MG} {mt : MT} {me : ME} {is vs : List Nat} {mu : Bool}
theorem noX_bind {α β γ δ : Type} {F : Kn} {ι : List Addr} {σ : AS} {σv : L2.St} {rel : Kn → List Addr → α → γ → Prop} {m : AS → AH → Rv α} {h : AH} {H : Hp} {f : α → AH → Rv β} {rel' : Kn → List Addr → β → δ → Prop} {Q' : δ → Hp → Prop} {Q : γ → Hp → Prop} {σ' : AS} {σv' : L2.St}
    (hr : HR g F ι h H) (lr : LR g F ι σ σv) (p : Post g W F ι σv' rel' (bindR (noX (m σ h)) f) Q')
    (k : ∀ F1 ι1 H1 a h1 v, Le F ι F1 ι1 → HR g F1 ι1 h1 H1 → rel F1 ι1 a v → Post g W F1 ι1 σv' rel' (f a h1) Q' → Q v H1) : tM g W0 rel m σv H Q := by
  refine ⟨F, ι, σ, h, hr, lr, ?_⟩
  revert p
  cases m σ h with
  | ok a h1 => exact fun p F1 ι1 H1 v l hr1 r1 => k F1 ι1 H1 a h1 v l hr1 r1 (p.le l)
  | exc c h1 => exact fun p => p.elim
  | stuck => exact fun p => p.elim
theorem Post.lf {α β : Type} {F F1 : Kn} {ι ι1 : List Addr} {σv : L2.St} {rel : Kn → List Addr → α → β → Prop} {r : Rv α} {Q : β → Hp → Prop} (h : ∀ F2 ι2, Le F1 ι1 F2 ι2 → Le F ι F2 ι2) (p : Post g W F ι σv rel r Q) : Post g W F1 ι1 σv rel r Q := by
  cases r with
  | ok d h1 => exact fun F' ι' H' v l' hr rv => p F' ι' H' v (h _ _ l') hr rv
  | exc c h1 => exact fun F' ι' H' l' hr => p F' ι' H' (h _ _ l') hr
  | stuck => exact p
/-- the end of a comprehension's list -/
theorem lc_end (t : TiOk g) {f1 f : Addr → Option HO} {P : List (Addr × HO)} {ι1 : List Addr} {Dd : Addr} {acc : List D} {ws : List V} {h : AH} {H : Hp} {σv : L2.St} {Q : VK} (hP : ∀ q ∈ P, q.1 ≠ Dd) (l : Lf ⟨f1, P⟩ ι1 ⟨f, (Dd, .lst ws) :: P⟩ ι)
    (hr : HR g ⟨f, (Dd, .lst ws) :: P⟩ ι h H) (rv : VRs g ⟨f, (Dd, .lst ws) :: P⟩ ι acc ws) (p : Post g W ⟨f1, P⟩ ι1 σv (VR g) (mkL mu acc h) Q) : Q (.ref Dd) H := by
  cases mu with
  | true =>
    have hr2 := hr.unheldO hP (o := .lst acc) ⟨ws, rfl, VRs.monoF Lf.pr _ _ rv⟩
    refine p ⟨f, P⟩ (ι ++ [Dd]) H (.ref Dd) ⟨⟨fun a o e => l.fr a o e, ?_⟩, rfl⟩ hr2 (by simp only [VR]; exact ⟨Dd, rfl, by rw [← hr.len]; simp⟩)
    obtain ⟨m, rfl⟩ := l.io
    exact ⟨m ++ [Dd], by simp⟩
  | false =>
    obtain ⟨hr2, z⟩ := hr.unheld hP
    refine p ⟨upd f Dd (.lst ws), P⟩ ι H (.ref Dd) ⟨⟨fun a o e => ?_, l.io⟩, rfl⟩ hr2 ?_
    · have e' : f a = some o := l.fr a o e
      show upd f Dd _ a = some o
      rw [upd_ne (ne_of_none (H := f) e' z)]
      exact e'
    · simp only [VR]
      refine ⟨Dd, ws, rfl, upd_same, VRs.monoF ⟨fun a o e => ?_, [], by simp⟩ _ _ rv⟩
      have e' : f a = some o := e
      show upd f Dd _ a = some o
      rw [upd_ne (ne_of_none (H := f) e' z)]
      exact e'
theorem bindR_assoc {α β γ : Type} (r : Rv α) (f : α → AH → Rv β) (k : β → AH → Rv γ) : bindR (bindR r f) k = bindR r fun a h => bindR (f a h) k := by cases r <;> rfl
theorem lc_weak (t : TiOk g) (hs : ∀ i ∈ is, i ∈ vs) : ∀ σv H Q, tE g W (mLc mu mi vs mg mt me) σv H Q → tLc (tI g W mi) (tG g W0 is mg) (tT g W0 mt) (tE g W0 me) vs σv H Q := by
  rintro σv H Q ⟨F, ι, σ, h, hr, lr, p⟩
  refine tM_bind (f := fun σ it h1 => bindR (compN it mg mt me bigN 0 (wipeA σ vs) [] h1) (mkL mu)) hr lr p fun F1 ι1 H1 it h1 J l hr1 lr1 r1 p1 => ?_
  intro Dd hD
  obtain ⟨f1, P⟩ := F1
  have hP : ∀ q ∈ P, q.1 ≠ Dd := fun q hq => ne_of_none (hr1.pv q hq).1 hD
  refine ⟨fun i m H => ∃ f ι h acc ws, Lf ⟨f1, P⟩ ι1 ⟨f, (Dd, .lst ws) :: P⟩ ι ∧ HR g ⟨f, (Dd, .lst ws) :: P⟩ ι h H ∧ VRs g ⟨f, (Dd, .lst ws) :: P⟩ ι acc ws ∧ Post g W ⟨f1, P⟩ ι1 σv (VR g) (bindR (compN it mg mt me m i (wipeA σ vs) acc h) (mkL mu)) Q,
    ⟨bigN, f1, ι1, h1, [], [], Lf.hold, hr1.hold t hD _, by simp [VRs], p1⟩, ?_⟩
  rintro i m H ⟨f, ι, h, acc, ws, lf, hr, rv, p⟩
  cases m with
  | zero => exact p.elim
  | succ n =>
    have hj := r1 _ ι i h H lf hr
    unfold compN at p
    revert p hj
    cases it i h with
    | stop => exact fun hj p => .inl ⟨hj, lc_end t hP lf hr rv p⟩
    | bad => exact fun _ p => p.elim
    | go d =>
      intro hj p
      obtain ⟨go, yld⟩ := hj
      refine .inr ⟨go, fun H' => ∃ f ι h acc ws, Lf ⟨f1, P⟩ ι1 ⟨f, (Dd, .lst ws) :: P⟩ ι ∧ HR g ⟨f, (Dd, .lst ws) :: P⟩ ι h H' ∧ VRs g ⟨f, (Dd, .lst ws) :: P⟩ ι acc ws ∧ Post g W ⟨f1, P⟩ ι1 σv (VR g) (bindR (compN it mg mt me n (i + 1) (wipeA σ vs) acc h) (mkL mu)) Q,
        fun H' w => ⟨n, Nat.lt_succ_self n, w⟩, fun x H' hy => ?_⟩
      obtain ⟨F2, l2, hr2, r2⟩ := yld x H' hy
      have lr2 : LR g F2 ι (wipeA σ vs) (wipe σv vs) := ((lr1.monoF lf).mono l2).wipe vs
      refine ⟨F2, ι, wipeA σ vs, h, d, hr2, lr2, r2, ?_⟩
      revert p
      dsimp only
      cases mg d (wipeA σ vs) h with
      | ok σ3 h3 =>
        intro p F3 ι3 H3 σv3 l3 hr3 lr3 sb3
        refine ⟨wipe_same2 sb3 hs, ?_⟩
        have lf3 := lf.trans (l2.trans l3).toLf
        have p' : Post g W ⟨f1, P⟩ ι1 σv (VR g) (bindR (bindR (noX (mt σ3 h3)) fun k h2 => if k = true then bindR (noX (me σ3 h2)) fun y h3 => if acc.length < sizeLine then compN it mg mt me n (i + 1) (wipeA σ vs) (acc ++ [y]) h3 else .stuck else compN it mg mt me n (i + 1) (wipeA σ vs) acc h2) (mkL mu)) Q := p
        rw [bindR_assoc] at p'
        clear p
        refine ⟨F3, ι3, σ3, h3, hr3, lr3, ?_⟩
        revert p'
        cases mt σ3 h3 with
        | exc c h4 => exact fun p => p.elim
        | stuck => exact fun p => p.elim
        | ok k h4 =>
          intro p F4 ι4 H4 b l4 hr4 eb
          subst eb
          have lf4 := lf3.trans l4.toLf
          have pr4 : F4.pr = (Dd, .lst ws) :: P := l4.pr.trans (l3.pr.trans l2.pr)
          have rv4 : VRs g F4 ι4 acc ws := VRs.mono (l2.trans (l3.trans l4)) _ _ rv
          have p : Post g W ⟨f1, P⟩ ι1 σv (VR g) (bindR (if b = true then bindR (noX (me σ3 h4)) fun y h3 => if acc.length < sizeLine then compN it mg mt me n (i + 1) (wipeA σ vs) (acc ++ [y]) h3 else .stuck else compN it mg mt me n (i + 1) (wipeA σ vs) acc h4) (mkL mu)) Q := p
          by_cases hb : b = true
          · rw [if_pos hb] at p ⊢
            refine ⟨F4, ι4, σ3, h4, hr4, lr3.mono l4, ?_⟩
            revert p
            cases me σ3 h4 with
            | exc c h5 => exact fun p => p.elim
            | stuck => exact fun p => p.elim
            | ok y h5 =>
              intro p F5 ι5 H5 u l5 hr5 r5
              have pr5 : F5.pr = (Dd, .lst ws) :: P := l5.pr.trans pr4
              obtain ⟨f5, p5⟩ := F5
              have e5 : p5 = (Dd, .lst ws) :: P := pr5
              subst e5
              have p : Post g W ⟨f1, P⟩ ι1 σv (VR g) (bindR (if acc.length < sizeLine then compN it mg mt me n (i + 1) (wipeA σ vs) (acc ++ [y]) h5 else .stuck) (mkL mu)) Q := p
              by_cases hz : acc.length < sizeLine
              · rw [if_pos hz] at p
                have rv5 : VRs g ⟨f5, (Dd, .lst ws) :: P⟩ ι5 acc ws := VRs.mono l5 _ _ rv4
                refine ⟨ws, (hr5.pv (Dd, .lst ws) List.mem_cons_self).1, by rw [rv5.length]; exact hz, f5, ι5, h5, acc ++ [y], ws ++ [u], (lf4.trans l5.toLf).trans Lf.pr, hr5.held t trivial hP, ?_, p⟩
                exact (VRs.monoF Lf.pr _ _ rv5).append (VRs.one (VR.monoF Lf.pr _ _ r5))
              · rw [if_neg hz] at p
                exact p.elim
          · rw [if_neg hb] at p ⊢
            obtain ⟨f4, p4⟩ := F4
            have e4 : p4 = (Dd, .lst ws) :: P := pr4
            subst e4
            exact ⟨f4, ι4, h4, acc, ws, lf4, hr4, rv4, p⟩
      | exc c h3 => exact fun p => p.elim
      | stuck => exact fun p => p.elim

variable {elt tg iter : Expr} {ifs : List Expr} {scope : Scope} {own : List (Str × Nat)} {pos spos py : Pos} {c : Expr} {mt1 : MT}
theorem ts_nil : PTs X [] (tT g W mYes) := ⟨fun pins s σ H Q I h => pts_nil.run pins s σ H Q I (by
  obtain ⟨F, ι, σ, h, hr, lr, p⟩ := h
  exact p F ι H true .refl hr rfl)⟩
theorem ts_one (h : PT X c (tT g W mt)) : PTs X [c] (tT g W mt) := pts_one h
theorem em_lc (t : TiOk g) (mu : Bool) (hc : X.calm = true) (hN : X.N.Nodup) (hi : PI X tg iter (tI g W mi)) (ok : BlkOk X.N X.env.scope scope own) (hvs : own.map (·.2) = vs) (hsub : ∀ i ∈ is, i ∈ vs)
    (hg : ∀ (s : Shared) (H : Hp) (C : Addr) (cl : List (Str × Addr)) (fp : List Addr), PG (X.blk s H scope (compEnvC scope cl C X.env) fp) tg (tG g W0 is mg)) (ht : ∀ (s : Shared) (H : Hp) (C : Addr) (cl : List (Str × Addr)) (fp : List Addr), PTs (X.blk s H scope (compEnvC scope cl C X.env) fp) ifs (tT g W0 mt))
    (he : ∀ (s : Shared) (H : Hp) (C : Addr) (cl : List (Str × Addr)) (fp : List Addr), PE (X.blk s H scope (compEnvC scope cl C X.env) fp) elt (tE g W0 me)) (hs : ∀ x, foldedSetIterable iter X.env x = pure x := by intro _; rfl) :
    PE X (.ListComp elt [⟨tg, iter, ifs, 0⟩] scope pos) (tE g W (mLc mu mi vs mg mt me)) := by
  subst hvs
  exact PE_weak (pe_lc hc hN hi ok hg ht he hs) (lc_weak t hsub)
theorem sm_setLc {i : Nat} {y : Str} (t : TiOk g) (mu : Bool) (hc : X.calm = true) (hN : X.N.Nodup) (hy : X.N[i]? = some y) (hyl : X.env.scope.names.lookup y = some .local)
    (hsw : swapsWith (.ListComp elt [⟨tg, iter, ifs, 0⟩] scope pos) (some (.Name y py)) spos.line X.env = pure true) (hi : PI X tg iter (tI g W mi)) (ok : BlkOk X.N X.env.scope scope own) (hvs : own.map (·.2) = vs) (hsub : ∀ i ∈ is, i ∈ vs)
    (hg : ∀ (s : Shared) (H : Hp) (C : Addr) (cl : List (Str × Addr)) (fp : List Addr), PG (X.blk s H scope (compEnvC scope cl C X.env) fp) tg (tG g W0 is mg)) (ht : ∀ (s : Shared) (H : Hp) (C : Addr) (cl : List (Str × Addr)) (fp : List Addr), PTs (X.blk s H scope (compEnvC scope cl C X.env) fp) ifs (tT g W0 mt))
    (he : ∀ (s : Shared) (H : Hp) (C : Addr) (cl : List (Str × Addr)) (fp : List Addr), PE (X.blk s H scope (compEnvC scope cl C X.env) fp) elt (tE g W0 me)) (hs : ∀ x, foldedSetIterable iter X.env x = pure x := by intro _; rfl) :
    PS X (.Assign [.Name y py] (.ListComp elt [⟨tg, iter, ifs, 0⟩] scope pos) spos) (tS g W (sAsg (mLc mu mi vs mg mt me) (gmName i))) := by
  subst hvs
  refine PS_weak (ps_setLc hc hN hy hyl hsw hi ok hg ht he hs) ?_
  rintro E σv H ⟨F, ι, σ, h, hr, lr, p⟩
  refine lc_weak t hsub σv H _ (tS_bind (f := fun σ d h1 => ofG (gmName i d σ h1)) hr lr p fun F1 ι1 H1 x h1 v l hr1 lr1 r1 p1 => ?_)
  exact nxt p1 hr1 (lr1.set r1)
end
end DV
end
section
set_option Elab.async false
set_option linter.all false
set_option maxRecDepth 100000
set_option maxHeartbeats 2000000
namespace DV
open PySem L2 PyProof.Rows PySem.Spec GenW

/-! ### generator expressions -/
/-- what the consumer holds while ys is out -/
abbrev Cs := List V → List (Addr × Obj) → Prop
/-- while the generator sleeps the consumer takes x in -/
def Slp (cp : Cs) (ys : List V) (x : V) (p : List (Addr × Obj)) (s s' : Shared) : Prop :=
  s'.os = s.os ∧ AllBare s'.gens ∧ ∃ p', cp (ys ++ [x]) p' ∧ p'.map (·.1) = p.map (·.1) ∧ (∀ q ∈ p', s'.heap.get? q.1 = some q.2 ∧ ∀ v, q.2.data ≠ .cell v) ∧ ∀ b o, b ∉ p.map (·.1) → s.heap.get? b = some o → s'.heap.get? b = some o
/-- the context of the generator's frame -/
abbrev gxCx (X : Cx) (A : Around) (s : Shared) (H : Hp) (scope : Scope) (C : Addr) (code : Value) (fp : List Addr) (pn : List (Addr × Obj)) : Cx :=
  { X with A := A.deeper (genEnv scope (cloFrom X.env.cells scope.names []) C code builtinsNs X.env), s_0 := s, H_0 := H, env := genEnv scope (cloFrom X.env.cells scope.names []) C code builtinsNs X.env, outer := X.stack,
           stack := genEnv scope (cloFrom X.env.cells scope.names []) C code builtinsNs X.env :: X.stack, ex := fp, fn := fun _ => false, calm := true, pn := pn, xe := fun _ _ => False }
section
variable {X : Cx} {pins : List (Addr × Obj)} {σ : L2.St} {H : Hp} {s : Shared}
theorem gx_start {A : Around} {scope : Scope} {own : List (Str × Nat)} {fp : List Addr} {C : Addr} {code : Value} {pn p : List (Addr × Obj)} {m : Str → Option Value} {s2 : Shared} (I : L2.Inv X pins σ H s) (ok : BlkOk X.N X.env.scope scope own) (hcell : ∀ y ∈ scope.names, y.2 ≠ .cell) (hN : X.N.Nodup)
    (hA : A.frames = some X.stack) (hh : A.handled = none) (hfp : ∀ b ∈ fp, FpOk X pins H b ∧ b < s.heap.objs.size) (hC : C = s.heap.objs.size) (hos : s2.os = s.os) (hb : AllBare s2.gens) (kp : ∀ b o, s.heap.get? b = some o → s2.heap.get? b = some o) (hns : s2.heap.Ns C m)
    (hp : ∀ q ∈ pn ++ p, s2.heap.get? q.1 = some q.2 ∧ s.heap.objs.size < q.1 ∧ ∀ v, q.2.data ≠ .cell v) :
    L2.Inv (gxCx X A s H scope C code fp pn) p (L2.wipe σ (own.map (·.2))) H s2 := by
  have hfree : ∀ y ∈ scope.names, y.2 = .free → ∃ c, X.env.cells.lookup y.1 = some c := fun y hy e => by
    rcases ok.free y hy e with k | k
    · exact I.ok.has _ (.inl k)
    · exact I.ok.has _ (.inr k)
  have cm : ∀ {y c}, (cloFrom X.env.cells scope.names []).lookup y = some c → X.env.cells.lookup y = some c ∧ c < s.heap.objs.size := fun {y c} hm => by
    rcases cloFrom_mem (PySem.mem_of_lookup hm) with hm | ⟨h1, h2⟩
    · cases hm
    · obtain ⟨c1, hc⟩ := hfree _ h1 rfl
      have hc : X.env.cells.lookup y = some c1 := hc
      have e2 : c = c1 := by
        rw [h2, hc] <;> rfl
      rw [e2]
      obtain ⟨w, z⟩ := I.cell _ _ hc
      exact ⟨hc, z.lt⟩
  have look : ∀ {y}, scope.names.lookup y = some .free → ∃ c, (cloFrom X.env.cells scope.names []).lookup y = some c := fun {y} hl => by
    have hy : (y, NameKind.free) ∈ scope.names := PySem.mem_of_lookup hl
    exact mem_lookup (cloFrom_has (cells := X.env.cells) (acc := []) hy)
  refine ⟨⟨I.ok.mod, ok.kind, I.ok.glob, rfl, by show s.heap.objs.size ≤ C; rw [hC]; exact Nat.le_refl _, fun y z c e1 e2 => I.ok.inj y z c (cm e1).1 (cm e2).1, fun y hy => ?_, fun y c z _ => ?_, fun _ => hh, Around.frames_deeper hA, .inr ⟨rfl, rfl⟩, fun b hb => ⟨?_, fun y c e z => ?_⟩, I.bs, Nat.le_trans I.ok.bsz I.sz, fun b o e hb => ?_, fun b hb z => ?_, I.stack, I.stkFree⟩,
    hos, hb, Un.kept kp, ⟨m, hns, fun i y v e1 e2 e3 => ?_⟩, fun y c e => ?_, ?_, fun y c e => ?_, fun q hq => ?_, I.hok.kept kp, by rw [wipe_length]; exact I.len⟩
  · have hy : scope.names.lookup y = some .cell ∨ scope.names.lookup y = some .free := hy
    rcases hy with hy | hy
    · exact absurd rfl (hcell _ (PySem.mem_of_lookup hy))
    · exact look hy
  · exact absurd (show false = true from z) Bool.false_ne_true
  · show b ≠ C
    rw [hC]; exact Nat.ne_of_lt (hfp b hb).2
  · exact (hfp b hb).1.2.2.2.2.1 y c (cm e).1 z
  · rcases (hfp b hb).1.2.2.2.1 with z | z
    · exact I.ok.noex b o e z
    · exact absurd (Nat.lt_of_lt_of_le (Heap.lt_size e) (Nat.le_trans I.ok.bsz z)) (Nat.lt_irrefl _)
  · rcases List.mem_cons.mp (I.stkSub b z) with z | z
    · exact (hfp b hb).1.2.1 z
    · exact (hfp b hb).1.2.2.1 z
  · obtain ⟨e2, hne⟩ := wipe_some e2
    have no : ∀ k, scope.names.lookup y = some k → ¬ (k = .local ∨ k = .cell) := fun k e hh => by
      rcases ok.own _ (PySem.mem_of_lookup e) hh with e' | e'
      · obtain ⟨p, hp, hpy⟩ := List.mem_map.mp e'
        have e3 := ok.ix p hp
        have : p.1 = y := hpy
        rw [this] at e3
        exact hne (List.mem_map.mpr ⟨p, hp, nodup_ix hN e3 e1⟩)
      · exact e' (List.mem_of_getElem? e1)
    have e3 : Vis scope y := e3
    rcases e3 with k | k | k
    · exact absurd (.inl rfl) (no _ k)
    · exact absurd (.inr rfl) (no _ k)
    · obtain ⟨m, hn, hl⟩ := I.loc
      have hvis : Vis X.env.scope y := (ok.free _ (PySem.mem_of_lookup k) rfl).elim (fun k => .inr (.inl k)) (fun k => .inr (.inr k))
      obtain ⟨w', r, q⟩ := hl i y v e1 e2 hvis
      obtain ⟨c2, h2⟩ := look k
      refine ⟨w', r, .inr ⟨.inr k, c2, h2, ?_⟩⟩
      have c1 := (cm h2).1
      rcases q with ⟨k', _⟩ | ⟨_, c3, e', z⟩
      · have k' : X.env.scope.names.lookup y = some .local := k'
        rcases ok.free _ (PySem.mem_of_lookup k) rfl with k2 | k2 <;> rw [show X.env.scope.names.lookup y = _ from k2] at k' <;> cases k'
      · rw [c1] at e'
        cases e'
        exact z.keeps kp
  · obtain ⟨w', z⟩ := I.cell y c (cm e).1
    exact ⟨w', z.keeps kp⟩
  · show H C = none
    rw [hC]; exact I.hok.fresh (Nat.le_refl _)
  · exact I.freeC y c (cm e).1
  · obtain ⟨h1, h2, h3⟩ := hp q hq
    refine ⟨h1, I.hok.fresh (Nat.le_of_lt h2), ?_, ?_, h3⟩
    · show q.1 ≠ C
      rw [hC]; exact Nat.ne_of_gt h2
    · show q.1 ∉ frs X.stack
      intro z
      rcases List.mem_cons.mp (I.stkSub q.1 z) with z | z
      · have := I.lt
        rw [← z] at this
        exact Nat.lt_irrefl _ (Nat.lt_trans this h2)
      · exact I.nofs (Nat.le_of_lt h2) z
/-- woken again -/
theorem gx_woken {Xg : Cx} {cp : Cs} {p ip : List (Addr × Obj)} {ys : List V} {x : V} {s s' : Shared} (hpn : ∀ q ∈ Xg.pn, q.1 ∉ p.map (·.1)) (hip : ∀ q ∈ ip, q.1 ∉ p.map (·.1)) (hA : ∀ b ∈ p.map (·.1), Xg.s_0.heap.objs.size ≤ b ∧ b ≠ Xg.env.locals ∧ ∀ x c, Xg.env.cells.lookup x = some c → c ≠ b)
    (I : L2.Inv Xg (p ++ ip) σ H s) (z : Slp cp ys x p s s') : ∃ p', cp (ys ++ [x]) p' ∧ p'.map (·.1) = p.map (·.1) ∧ L2.Inv Xg (p' ++ ip) σ H s' := by
  obtain ⟨z1, z2, p', z3, z4, z5, z6⟩ := z
  have hz : ∀ b ∈ p.map (·.1), H b = none ∧ b ≠ Xg.env.locals ∧ b ∉ Xg.fs := fun b hb => by
    obtain ⟨q, hq, rfl⟩ := List.mem_map.mp hb
    obtain ⟨h1, h2, h3, h4, _⟩ := I.pin q (List.mem_append_right _ (List.mem_append_left _ hq))
    exact ⟨h2, h3, h4⟩
  have I0 : L2.Inv Xg ip σ H s := I.pins_of fun q hq => I.pin q (List.mem_append_right _ (List.mem_append_right _ hq))
  have nt : ∀ b u, H b = some u → b ∉ p.map (·.1) := fun b u q hb => by rw [(hz b hb).1] at q; cases q
  obtain ⟨hh, g, d, t, o⟩ := s'
  have ho : o = s.os := z1
  subst ho
  have there : ∀ b ∈ p.map (·.1), ∃ o', hh.get? b = some o' := fun b hb => by
    rw [← z4] at hb
    obtain ⟨q, hq, rfl⟩ := List.mem_map.mp hb
    exact ⟨_, (z5 q hq).1⟩
  have J : L2.Inv Xg ip σ H { s with heap := hh, gens := g, drawn := d, toks := t } := by
    refine I0.step (g' := g) (t' := t) (d' := d) (ch := p.map (·.1)) (fun b hb => ?_)
      (fun b ob _ _ hc q _ => z6 b ob hc q) (fun b ob _ _ hc q _ => ⟨ob.slots, z6 b ob hc q⟩) (fun _ _ _ _ n => n) (fun b ob hc q => ⟨ob, z6 b ob hc q⟩)
      (fun _ _ q => q) (fun _ _ _ q => q) (fun b ps q => ⟨#[], by rw [q]; simp⟩) (fun m hm => ?_) (fun b u q => ?_) z2
    · refine ⟨.inr (hA b hb).1, (hA b hb).2.1, (hA b hb).2.2, fun q hq => ?_⟩
      rcases List.mem_append.mp hq with hq | hq
      · exact fun e => hpn q hq (e ▸ hb)
      · exact fun e => hip q hq (e ▸ hb)
    · obtain ⟨ob, es, ep, ho, r⟩ := hm
      exact ⟨ob, es, ep, z6 _ ob (fun hb => (hz _ hb).2.1 rfl) ho, r⟩
    · refine (I0.hok b u q).stay (fun c v hc y => z6 c v ?_ y) (fun _ y => y) fun _ _ y => y
      rcases hc with y | y
      · rw [y]; exact nt b u q
      · exact nt c _ y
  refine ⟨p', z3, z4, J.pins_of fun q hq => ?_⟩
  rcases List.mem_append.mp hq with hq | hq
  · have hb : q.1 ∈ p.map (·.1) := by rw [← z4]; exact List.mem_map.mpr ⟨q, hq, rfl⟩
    exact ⟨(z5 q hq).1, (hz _ hb).1, (hz _ hb).2.1, (hz _ hb).2.2, (z5 q hq).2⟩
  · exact J.pin q (List.mem_append_right _ hq)

theorem over_gx {A : Around} {elt : Expr} {gs : List Comprehension} {scope : Scope} {pos : Pos} {it acc : Value} {env : Env} : A.over (.compLoop (.GeneratorExp elt gs scope pos) 0 it acc env) [] = A.deeper env := by
  first
    | rfl
    | (obtain ⟨hd, d, fr, gs, u⟩ := A; simp [Around.over, Around.deeper, marksOver, frameCount, unitsOf, envsOf, guardsOf, pushEnvs, pushGuards, Code.envs, Code.env?, Code.isFrame, Code.guards, Code.isGuard, Code.weight, Code.frames, Code.isCreation, Code.isCaller, Code.cUnits])
theorem over_gx0 {A : Around} {elt : Expr} {gs : List Comprehension} {scope : Scope} {pos : Pos} {it acc : Value} {env : Env} : A.over (.compStart (.GeneratorExp elt gs scope pos) 0 it acc env) [] = A.deeper env := by
  first
    | rfl
    | (obtain ⟨hd, d, fr, gs, u⟩ := A; simp [Around.over, Around.deeper, marksOver, frameCount, unitsOf, envsOf, guardsOf, pushEnvs, pushGuards, Code.envs, Code.env?, Code.isFrame, Code.guards, Code.isGuard, Code.weight, Code.frames, Code.isCreation, Code.isCaller, Code.cUnits])
def GEnd (X : Cx) (pins : List (Addr × Obj)) (σ : L2.St) (cp : Cs) (fin : List V → Hp → Prop) : GenEnd := fun n s₀ r s1 =>
  ((r = .ok (.ret .none) ∨ r = .ok .next) ∧ ∃ ys p H, ys.length ≤ sizeLine ∧ cp ys p ∧ (∀ q ∈ p, s₀.heap.get? q.1 = some q.2 ∧ s1.heap.get? q.1 = some q.2) ∧ L2.Inv X pins σ H s1 ∧ fin ys H) ∨ ∃ e, r = .error e ∧ False
def GYld (X : Cx) (pins : List (Addr × Obj)) (σ : L2.St) (pn : List (Addr × Obj)) (cp : Cs) (Out : List V → V → Hp → Prop) : Protocol := fun n s₀ v s kap =>
  ∃ ys x p H, n + 1 + ys.length = sizeLine ∧ RelV x v ∧ cp ys p ∧ (∀ q ∈ p, s₀.heap.get? q.1 = some q.2 ∧ s.heap.get? q.1 = some q.2) ∧ L2.Inv X pins σ H s ∧ (∀ q ∈ pn, s.heap.get? q.1 = some q.2) ∧ Out ys x H ∧ ∀ s', Slp cp ys x p s s' → kap (.send .none) s'
/-- the generator's turns -/
def gxTurn (g : TG) (tt : TT) (te : TE) (vs : List Nat) (σ : L2.St) (J : It) (fin : List V → Hp → Prop) (Out : List V → V → Hp → Prop) (Ok : List V → Prop) (W : Nat → Nat → List V → Hp → Prop) : Prop := ∀ i m ys H, W i m ys H →
  (J.stop i H ∧ fin ys H) ∨ (J.go i H ∧ ∃ Nx : List V → Hp → Prop, (∀ ys' H', Nx ys' H' → ∃ m', m' < m ∧ W (i + 1) m' ys' H') ∧ ∀ x H', J.yld i H x H' → g x (L2.wipe σ vs) H' fun σ2 H2 => L2.wipe σ2 vs = L2.wipe σ vs ∧ tt σ2 H2 fun b H3 =>
    if b = true then te σ2 H3 fun y H4 => ys.length < sizeLine ∧ Out ys y H4 ∧ (Ok (ys ++ [y]) → Nx (ys ++ [y]) H4) else Nx ys H3)
theorem gx_loop {A : Around} {elt tg iter : Expr} {ifs : List Expr} {scope : Scope} {pos : Pos} {own : List (Str × Nat)} {fp Z : List Addr} {it C : Addr} {code : Value} {pn : List (Addr × Obj)} {J : It} {tn : Nat → Heap → Prop} {g : TG} {tt : TT} {te : TE} {cp : Cs} {fin : List V → Hp → Prop} {Out : List V → V → Hp → Prop} {W : Nat → Nat → List V → Hp → Prop}
    (I : L2.Inv X pins σ H s) (hco : scope.isCoroutine = false) (hfp : ∀ b ∈ fp, FpOk X pins H b ∧ b < s.heap.objs.size) (hC : C = s.heap.objs.size) (hpn : ∀ q ∈ pn, s.heap.objs.size < q.1 ∧ q.1 ∉ Z) (hZ : ∀ b ∈ Z, s.heap.objs.size < b) (hcp : ∀ ys p, cp ys p → p.map (·.1) = Z) (hcell : ∀ x c, X.env.cells.lookup x = some c → c < s.heap.objs.size)
    (hcl : ∀ x c, (cloFrom X.env.cells scope.names []).lookup x = some c → X.env.cells.lookup x = some c)
    (T : Turn X.prog X.w X.K tg J fp it tn) (pg : PG (gxCx X A s H scope C code fp pn) tg g) (pt : PTs (gxCx X A s H scope C code fp pn) ifs tt) (pe : PE (gxCx X A s H scope C code fp pn) elt te) (hw : gxTurn g tt te (own.map (·.2)) σ J fin Out (fun ys => ∃ p, cp ys p) W) :
    ∀ (m i n : Nat) (ys : List V) (s₀ s1 : Shared) (p : List (Addr × Obj)) (H1 : Hp), n + ys.length = sizeLine → W i m ys H1 → cp ys p → (∀ q ∈ p, s₀.heap.get? q.1 = some q.2) → L2.Inv (gxCx X A s H scope C code fp pn) p (L2.wipe σ (own.map (·.2))) H1 s1 → tn i s1.heap → (∀ b ∈ fp, H1 b = none) →
      Seg (model X.prog X.w) A (GEnd X pins σ cp fin) (GYld X pins σ pn cp Out) n s₀ (.compLoop (.GeneratorExp elt [⟨tg, iter, ifs, 0⟩] scope pos) 0 (.ref it) .none (genEnv scope (cloFrom X.env.cells scope.names []) C code builtinsNs X.env))
        ((model X.prog X.w).den (.compLoop (.GeneratorExp elt [⟨tg, iter, ifs, 0⟩] scope pos) 0 (.ref it) .none (genEnv scope (cloFrom X.env.cells scope.names []) C code builtinsNs X.env))) [] s1 := by
  intro m
  induction m using Nat.strongRecOn with
  | ind m ih =>
  intro i n ys s₀ s1 p H1 hn hwm hp hp0 I1 st1 n1
  generalize hXg : gxCx X A s H scope C code fp pn = Xg at I1 pg pt pe
  generalize hce : genEnv scope (cloFrom X.env.cells scope.names []) C code builtinsNs X.env = ce
  have eC : ce.locals = C := by rw [← hce]; rfl
  have eA : Xg.A = A.deeper ce := by rw [← hXg, ← hce]
  have eE : Xg.env = ce := by rw [← hXg, ← hce]
  have eP : Xg.prog = X.prog := by rw [← hXg]
  have eW : Xg.w = X.w := by rw [← hXg]
  have eK : Xg.K = X.K := by rw [← hXg]
  have ec : Xg.calm = true := by rw [← hXg]
  have ex : Xg.xe = fun _ _ => False := by rw [← hXg]
  have epn : Xg.pn = pn := by rw [← hXg]
  have zp : ∀ b ∈ p.map (·.1), s.heap.objs.size < b := fun b hb => hZ b (by rw [← hcp _ _ hp]; exact hb)
  have stat : ∀ {p' : List (Addr × Obj)} {σ' : L2.St} {H' : Hp} {s' : Shared}, (∀ q ∈ p', s.heap.objs.size < q.1) → L2.Inv Xg p' σ' H' s' → (∀ b ∈ fp, H' b = none) → ∀ b ∈ fp, FpOk Xg p' H' b := fun {p' σ' H' s'} hp' I' hn b hb => by
    have I' := I'
    rw [← hXg] at I' ⊢
    refine ⟨hn b hb, (I'.ok.exf b hb).1, I'.ok.exfs b hb, .inl hb, fun x c e => (I'.ok.exf b hb).2 x c e, fun q hq => ?_⟩
    rcases List.mem_append.mp hq with hq | hq
    · exact Nat.ne_of_gt (Nat.lt_trans (hfp b hb).2 (hpn q hq).1)
    · exact Nat.ne_of_gt (Nat.lt_trans (hfp b hb).2 (hp' q hq))
  have back : ∀ {p' : List (Addr × Obj)} {σ' : L2.St} {H' : Hp} {s' : Shared}, L2.Inv Xg p' σ' H' s' → L2.Inv X pins σ H' s' := fun {p' σ' H' s'} I' => by
    rw [← hXg] at I'
    exact I.call' (ch := fp) I'.os I'.base I'.hok I'.bare fun b hb => ⟨(hfp b hb).1.2.2.2.1, (hfp b hb).1.2.1, (hfp b hb).1.2.2.2.2.1, (hfp b hb).1.2.2.2.2.2⟩
  have pz : ∀ q ∈ p, s.heap.objs.size < q.1 := fun q hq => zp q.1 (List.mem_map.mpr ⟨q, hq, rfl⟩)
  show Seg _ A _ _ _ s₀ _ ((compTurn (.GeneratorExp elt [⟨tg, iter, ifs, 0⟩] scope pos) 0 (.ref it) .none ce).onRaise (leaving ce)) [] s1
  rw [compTurn_gen, Sem.onRaise_eq_wrap]
  refine seg_bind_wrap ?_
  rw [over_gx]
  refine wpAny_standAt ?_
  rcases hw i m ys H1 hwm with ⟨stop, qq⟩ | ⟨go, Nx, hNx, step⟩
  · have td := T.done Xg eP eW eK ec i p s1 _ H1 (fun _ _ => False) I1 (stat pz I1 n1) st1 stop
    rw [eA] at td
    refine seg_bind_wrap ?_
    rw [over_gx]
    refine thnF td fun r s6 ⟨hr, I6⟩ => ?_
    subst hr
    exact seg_end (.ok .next) (.inl ⟨.inr rfl, ys, p, H1, by omega, hp, fun q hq => ⟨hp0 q hq, (I6.pin q (List.mem_append_right _ hq)).1⟩, back I6, qq⟩)
  · have ti := T.item Xg eP eW eK ec i p s1 _ H1 (fun _ _ => False) I1 (stat pz I1 n1) st1 go
    rw [eA] at ti
    refine seg_bind_wrap ?_
    rw [over_gx]
    refine thnF ti fun r s6 ⟨u, hr, h6⟩ => ?_
    subst hr
    refine seg_bind_wrap ?_
    rw [over_gx]
    refine thnF h6 fun _ s7 ⟨x, H7, I7, r7, y7, st7, n7⟩ => ?_
    have I7' := I7.pinned (stat pz I7 n7) (T.obj _ _ st7)
    have pgr := pg.run _ s7 _ H7 x u _ I7' r7 (step x H7 y7)
    rw [ex, eP, eW, eE, eA] at pgr
    refine seg_bind_wrap ?_
    rw [over_gx]
    refine thnF pgr fun _ s8 ⟨σ8, H8, I8, hw8, q8⟩ => ?_
    have ptr := pt.run _ s8 σ8 H8 _ I8 q8
    rw [ex, eP, eW, eE, eA] at ptr
    refine seg_bind_wrap ?_
    rw [over_gx]
    refine thnF ptr fun b s9 ⟨H9, I9, q9⟩ => ?_
    -- the turn's end
    have fine : ∀ {n' : Nat} {ys' : List V} {p' : List (Addr × Obj)} {s0' s' : Shared} {H' : Hp}, n' + ys'.length = sizeLine → cp ys' p' → (∀ q ∈ p', s0'.heap.get? q.1 = some q.2) → L2.Inv Xg (p' ++ pinsAt fp s7.heap) σ8 H' s' → Nx ys' H' →
        Seg (model X.prog X.w) A (GEnd X pins σ cp fin) (GYld X pins σ pn cp Out) n' s0' (.compLoop (.GeneratorExp elt [⟨tg, iter, ifs, 0⟩] scope pos) 0 (.ref it) .none ce)
          ((model X.prog X.w).den (.compLoop (.GeneratorExp elt [⟨tg, iter, ifs, 0⟩] scope pos) 0 (.ref it) .none ce)) [] s' := fun {n' ys' p' s0' s' H'} hn' hp' hp0' I' nx => by
      obtain ⟨m', hm, w'⟩ := hNx ys' H' nx
      have pin' : ∀ b ∈ fp, ∀ o, s7.heap.get? b = some o → s'.heap.get? b = some o ∧ H' b = none := fun b hb o e =>
        let z := I'.pin (b, o) (List.mem_append_right _ (List.mem_append_right _ (mem_pinsAt hb e)))
        ⟨z.1, z.2.1⟩
      have hl : (L2.wipe σ (own.map (·.2))).length = σ8.length := by rw [← hw8, wipe_length]
      have I'' := (I'.unpinned (pins := p')).weak hl (fun j v e => by
        rw [← hw8] at e
        exact (wipe_some e).1)
      subst hXg hce
      refine ih m' hm (i + 1) n' ys' s0' s' p' H' hn' w' hp' hp0' I'' (T.keep _ _ _ st7 fun b hb o e => (pin' b hb o e).1) fun b hb => ?_
      obtain ⟨o, e, _⟩ := T.obj _ _ st7 b hb
      exact (pin' b hb o e).2
    cases b with
    | false =>
      simp only [Bool.false_eq_true, if_false] at q9 ⊢
      exact seg_again rfl (fine hn hp hp0 I9 q9)
    | true =>
      simp only [if_true] at q9 ⊢
      have hy : ∀ v, yieldOut ce v = yieldValue v := fun v => by
        have : ce.scope.isCoroutine = false := by rw [← hce]; exact hco
        simp only [yieldOut, this, Bool.false_eq_true, if_false]
      simp only [hy]
      rw [Sem.bind_eq_wrap', Sem.bind_eq_wrap', Sem.wrap_wrap, Sem.wrap_wrap]
      have per := pe.run _ s9 σ8 H9 _ I9 q9
      rw [ex, eP, eW, eE, eA] at per
      refine seg_wrap ?_
      rw [over_gx]
      refine thnF per fun z s10 ⟨yv, H10, I10, r10, hlt, hout, nx⟩ => ?_
      obtain ⟨n', rfl⟩ : ∃ n', n = n' + 1 := ⟨n - 1, by omega⟩
      have zpp : ∀ q ∈ p ++ pinsAt fp s7.heap, q ∈ pn ++ (p ++ pinsAt fp s7.heap) := fun q hq => List.mem_append_right _ hq
      refine seg_at (seg_yield rfl rfl rfl ⟨ys, yv, p, H10, by omega, r10, hp, fun q hq => ⟨hp0 q hq, (I10.pin q (by rw [epn]; exact List.mem_append_right _ (List.mem_append_left _ hq))).1⟩, back I10, fun q hq => (I10.pin q (by rw [epn]; exact List.mem_append_left _ hq)).1, hout, fun s'' hal => ?_⟩)
      obtain ⟨p', e1, e2, I'⟩ := gx_woken (by
          rw [epn]
          intro q hq hb
          exact (hpn q hq).2 (by rw [← hcp _ _ hp]; exact hb)) (by
          intro q hq hb
          obtain ⟨h1, _⟩ := of_pinsAt hq
          exact Nat.lt_irrefl _ (Nat.lt_trans (hfp _ h1).2 (zp _ hb))) (by
          intro b hb
          have hb' := zp b hb
          rw [← hXg]
          refine ⟨Nat.le_of_lt hb', ?_, fun y c e => Nat.ne_of_lt (Nat.lt_trans (hcell y c (hcl y c e)) hb')⟩
          show b ≠ C
          rw [hC]
          exact Nat.ne_of_gt hb') I10 hal
      exact seg_again rfl (fine (by rw [List.length_append]; simp only [List.length_cons, List.length_nil]; omega) e1 (fun q hq => (I'.pin q (List.mem_append_right _ (List.mem_append_left _ hq))).1) I' (nx ⟨p', e1⟩))
end
end DV
end
section
set_option Elab.async false
set_option linter.all false
set_option maxRecDepth 100000
set_option maxHeartbeats 2000000
namespace DV
open PySem L2 PyProof.Rows PySem.Spec GenW LamX

/-- all but the code tables stays -/
theorem HR.ext {g : G} {F : Kn} {ι : List Addr} {h : AH} {H H2 : Hp} (r : HR g F ι h H) (e : ExtN H H2) (ti : g.Ti H2) : HR g F ι h H2 := by
  refine ⟨fun a o z => ?_, fun n o z => ?_, r.inj, r.len, ti, fun q hq => ?_, r.pt⟩
  · rcases r.fr a o z with ⟨z1, z2⟩ | ⟨ws, ob, e1, e2⟩
    · exact .inl ⟨e _ _ z1 z2, z2⟩
    · exact .inr ⟨ws, ob, e1, e _ _ e2 fun ps z => by cases z⟩
  · obtain ⟨a, x, e1, e2, e3, e4⟩ := r.hp n o z
    exact ⟨a, x, e1, e _ _ e2 e3.nt, e3, e4⟩
  · obtain ⟨q1, q2, q3⟩ := r.pv q hq
    exact ⟨e _ _ q1 fun ps z => (by obtain ⟨xs, hx⟩ := r.pt q hq; rw [hx] at z; cases z), q2, q3⟩
section
variable {X : Cx} {pins : List (Addr × Obj)} {σ : L2.St} {H : Hp} {s : Shared}
/-- the code object of a generator expression: new, or found in the table -/
theorem gx_code {T : List (Addr × Str)} {c P : Addr} {scope : Scope} {pos : Pos} {E : Value → Shared → Prop} {Q : Value → Shared → Prop} (I : L2.Inv X pins σ H s) (TB : TabB X.base X.mg c P) (hcode : X.env.code = .ref c)
    (hm : (P, X.env.qual ++ "<genexpr>") ∈ T) (hu : ∀ p ∈ T, p.1 = P → p.2 = X.env.qual ++ "<genexpr>") (hT : Tabs T H)
    (h : ∀ (code : Value) (H1 : Hp) (s' : Shared), L2.Inv X pins σ H1 s' → ExtN H H1 → Tabs T H1 → (∀ b o, H b = none → s.heap.get? b = some o → s'.heap.get? b = some o ∧ H1 b = none) → s.heap.objs.size ≤ s'.heap.objs.size → Q code s') :
    wpAny (model X.prog X.w) X.A (genexprCode X.env pos (X.env.qual ++ "<genexpr>") scope) Q E s := by
  obtain ⟨ps, hP, ht, ha⟩ := hT _ hm
  have bP : s.heap.BuiltinsAt X.mg P := TB.bm.keeps I.bk
  have hP' : s.heap.get? P = some { cls := .none, data := .fields ps } := I.hok P _ hP
  have cd : PySem.W.CodeHd s.heap c P := TB.code.keeps I.bk
  cases hc : codeAmong pos ps.toList with
  | none =>
    refine wpAny_genexprCodeX hcode (cd.code hP' ht) (cd.tab hP') hc fun c' h' tk hx hge hlt hco' hrec htab' _ => ?_
    obtain ⟨c2, oc, vs, t, e2, hoc, hd, hv⟩ := hrec
    cases e2
    have hsz : s.heap.objs.size ≤ h'.objs.size := Nat.le_trans hge (Nat.le_of_lt hlt)
    have nC : H c' = none := I.hok.fresh hge
    have I1 := inv_table (t' := tk) (more := #[rawInt pos.line, rawInt pos.col, .ref c']) (h' := h') I hP (fun b o hb e => hx b o hb e) htab'.2 hge ⟨oc, vs, t, hoc, hd, hv⟩
    have hE : ExtN H (upd (upd H P (.tbl (ps ++ #[rawInt pos.line, rawInt pos.col, .ref c']))) c' (CodeO c' (X.env.qual ++ "<genexpr>"))) := fun b o e n => by
      rw [upd_ne (ne_of_none e nC), upd_ne (fun z => n ps (Option.some.inj (e.symm.trans (by rw [z]; exact hP))))]
      exact e
    have eL : (ps ++ #[rawInt pos.line, rawInt pos.col, .ref c']).toList = ps.toList ++ [rawInt pos.line, rawInt pos.col, .ref c'] := by simp
    refine h _ _ _ I1 hE (fun p hp => ?_) (fun b o hb e => ?_) hsz
    · by_cases hb : p.1 = P
      · rw [hu p hp hb, hb]
        refine ⟨_, by rw [upd_ne (ne_of_none hP nC), upd_same], by rw [eL]; exact PySem.TriplesOk_snoc _ _ _ _ ht, fun p' cv hcv => ?_⟩
        rw [eL] at hcv
        rcases among_app _ ht hcv with z | z
        · obtain ⟨c0, e1, e2⟩ := ha p' cv z
          exact ⟨c0, e1, hE _ _ e2 codeO_ne⟩
        · exact ⟨c', z, upd_same⟩
      · obtain ⟨ps', a1, a2, a3⟩ := hT p hp
        refine ⟨ps', by rw [upd_ne (ne_of_none a1 nC), upd_ne hb]; exact a1, a2, fun p' cv hcv => ?_⟩
        obtain ⟨c0, e1, e2⟩ := a3 p' cv hcv
        exact ⟨c0, e1, hE _ _ e2 codeO_ne⟩
    · have n1 : b ≠ P := fun z => by rw [z, hP] at hb; cases hb
      have n2 : b ≠ c' := Nat.ne_of_lt (Nat.lt_of_lt_of_le (Heap.lt_size e) hge)
      exact ⟨hx b o n1 e, by rw [upd_ne n2, upd_ne n1]; exact hb⟩
  | some cv =>
    obtain ⟨c', e, hco⟩ := ha pos cv hc
    subst e
    refine wpAny_genexprCode_hit hcode (cd.code hP' ht) hc ?_
    exact h _ H s I (ExtN.refl H) hT (fun b o hb e => ⟨e, hb⟩) (Nat.le_refl _)

def GAlive (X : Cx) (pins : List (Addr × Obj)) (σ : L2.St) (a : Addr) (gi : Nat) (pn : List (Addr × Obj)) (cp : Cs) (fin : List V → Hp → Prop) (Out : List V → V → Hp → Prop) (A : Around) (n : Nat) (s : Shared) : Prop :=
  s.heap.IsGen a gi ∧ s.heap.NoLimit ∧ ∃ gs, s.gens[gi]? = some gs ∧ gs.Goes (model X.prog X.w) A (GEnd X pins σ cp fin) (GYld X pins σ pn cp Out) n (.send .none) (s.setGen gi .running)
def GxLive (X : Cx) (pins : List (Addr × Obj)) (σ : L2.St) (k : Nat) (turn : (List V → Hp → Prop) → (List V → V → Hp → Prop) → (List V → Prop) → (Nat → Nat → List V → Hp → Prop) → Prop) (H1 : Hp) (u : Value) (s5 : Shared) : Prop :=
  ∃ (a : Addr) (gi : Nat) (go : Obj), u = .ref a ∧ s5.heap.get? a = some go ∧ (∀ h : Heap, h.get? a = some go → h.IsGen a gi) ∧ gi < s5.gens.size ∧
    ∀ (A : Around) (cp : Cs) (Z : List Addr) (fin : List V → Hp → Prop) (Out : List V → V → Hp → Prop) (W : Nat → Nat → List V → Hp → Prop), Room k A → A.frames = some X.stack → turn fin Out (fun ys => ∃ p, cp ys p) W → (∃ m, W 0 m [] H1) →
      (∀ ys p, cp ys p → p.map (·.1) = Z) → (∀ b ∈ Z, s5.heap.objs.size ≤ b) → ∀ (s6 : Shared) (p : List (Addr × Obj)), (∀ b o, s5.heap.get? b = some o → s6.heap.get? b = some o) → s6.gens = s5.gens → s6.os = s5.os → cp [] p →
        (∀ q ∈ p, s6.heap.get? q.1 = some q.2 ∧ ∀ v, q.2.data ≠ .cell v) → GAlive X pins σ a gi [(a, go)] cp fin Out A sizeLine s6
theorem gx_make {k : Nat} {T : List (Addr × Str)} {c P : Addr} {elt tg iter : Expr} {ifs : List Expr} {scope : Scope} {own : List (Str × Nat)} {pos : Pos} {wi : TI} {g : TG} {tt : TT} {te : TE} {Q : Value → Shared → Prop} {R : It → Hp → Prop}
    (hd : X.A.depth < recursionLimit) (I : L2.Inv X pins σ H s) (TB : TabB X.base X.mg c P) (hcode : X.env.code = .ref c) (hm : (P, X.env.qual ++ "<genexpr>") ∈ T) (hu : ∀ p ∈ T, p.1 = P → p.2 = X.env.qual ++ "<genexpr>")
    (hN : X.N.Nodup) (ok : BlkOk X.N X.env.scope scope own) (hcell : ∀ y ∈ scope.names, y.2 ≠ .cell) (hco : scope.isCoroutine = false) (h0 : scope.names.lookup (".0" : Str) = some NameKind.local) (hi : PI X tg iter wi)
    (hg : ∀ (A : Around) (s : Shared) (H : Hp) (C : Addr) (code : Value) (fp : List Addr) (pn : List (Addr × Obj)), PG (gxCx X A s H scope C code fp pn) tg g)
    (ht : ∀ (A : Around) (s : Shared) (H : Hp) (C : Addr) (code : Value) (fp : List Addr) (pn : List (Addr × Obj)), Room k (gxCx X A s H scope C code fp pn).A → PTs (gxCx X A s H scope C code fp pn) ifs tt)
    (he : ∀ (A : Around) (s : Shared) (H : Hp) (C : Addr) (code : Value) (fp : List Addr) (pn : List (Addr × Obj)), Room k (gxCx X A s H scope C code fp pn).A → PE (gxCx X A s H scope C code fp pn) elt te)
    (hs : ∀ x, genFold iter X.env x = pure x) (hw : wi σ H fun J H1 => Tabs T H1 ∧ R J H1)
    (h : ∀ (J : It) (H1 H2 : Hp) (u : Value) (s5 : Shared), R J H1 → ExtN H1 H2 → Tabs T H2 → L2.Inv X pins σ H2 s5 → GxLive X pins σ (k + 1) (gxTurn g tt te (own.map (·.2)) σ J) H2 u s5 → Q u s5) :
    wpAny (model X.prog X.w) X.A (eval (.GeneratorExp elt [⟨tg, iter, ifs, 0⟩] scope pos) X.env) Q X.xe s := by
  have hfree : ∀ y ∈ scope.names, y.2 = .free → ∃ c, X.env.cells.lookup y.1 = some c := fun y hy e => by
    rcases ok.free y hy e with k | k
    · exact I.ok.has _ (.inl k)
    · exact I.ok.has _ (.inr k)
  have hcl : ∀ x c, (cloFrom X.env.cells scope.names []).lookup x = some c → X.env.cells.lookup x = some c := fun y c hm => by
    rcases cloFrom_mem (PySem.mem_of_lookup hm) with hm | ⟨h1, h2⟩
    · cases hm
    · obtain ⟨c1, hc⟩ := hfree _ h1 rfl
      have hc : X.env.cells.lookup y = some c1 := hc
      have e2 : c = c1 := by
        rw [h2, hc] <;> rfl
      rw [e2]
      exact hc
  refine wpAny_GeneratorExp_make hco (closure_ok hfree) hcell h0 ok.kind hd ?_ hs
  refine thn (hi.run pins s σ H _ I hw) fun xv s1 h1 => thn h1 fun itv s2 h2 => ?_
  obtain ⟨it, fp, tn, J, H1, e, I2, T2, st2, f2, hT, hR⟩ := h2
  subst e
  refine ⟨I2.nolimit, ?_⟩
  refine gx_code (T := T) I2 TB hcode hm hu hT fun code H2 s3 I3 hE hT3 kp3 sz3 => ?_
  have bm3 : s3.heap.BuiltinsAt X.mg P := TB.bm.keeps I3.bk
  obtain ⟨bm, ob, e1, e2, e3, e4, e5, e6, e7, e8⟩ := TB.bm
  refine wpAny_builtinsFor (m := X.mg) (by rw [I3.ok.glob]; exact I3.mod.glob.keeps I3.bk) e1 e2 (I3.bk _ _ e5) e6 e7 e8 ?_
  have szf : ∀ b ∈ fp, b < s2.heap.objs.size := fun b hb => by
    obtain ⟨o, e, _⟩ := T2.obj _ _ st2 b hb
    exact Heap.lt_size e
  have f3 : ∀ b ∈ fp, FpOk X pins H2 b ∧ b < s3.heap.objs.size := fun b hb => by
    obtain ⟨o, e, _⟩ := T2.obj _ _ st2 b hb
    exact ⟨⟨(kp3 b o (f2 b hb).1 e).2, (f2 b hb).2⟩, Nat.lt_of_lt_of_le (szf b hb) sz3⟩
  have st3 : tn 0 s3.heap := T2.keep _ _ _ st2 fun b hb o e => (kp3 b o (f2 b hb).1 e).1
  intro h' hn' hs'
  have hsz : h'.objs.size = s3.heap.objs.size + 1 := by rw [hs'.1, Heap.size_push]
  have keep' : ∀ b o, s3.heap.get? b = some o → h'.get? b = some o := fun b o e => hs'.extBut b o (Nat.ne_of_lt (Heap.lt_size e)) (Heap.get?_push_of_some _ e)
  generalize hgo : ({ cls := .type "generator", data := .fields #[.int s3.gens.size 0, .str "<genexpr>" (s3.toks + 1), .str (X.env.qual ++ "<genexpr>") (s3.toks + 1 + 1)] } : Obj) = go
  have hgd : ∀ v, go.data ≠ .cell v := fun v q => by rw [← hgo] at q; cases q
  have hisg : ∀ h : Heap, h.get? h'.objs.size = some go → h.IsGen h'.objs.size s3.gens.size := fun h e => ⟨go, _, _, e, by rw [← hgo], by rw [← hgo], by rw [← hgo]⟩
  have hpg : (h'.push go).get? h'.objs.size = some go := Heap.get?_push_size _ (by rw [← hgo]; rfl)
  have keep5 : ∀ b o, s3.heap.get? b = some o → (h'.push go).get? b = some o := fun b o e => Heap.get?_push_of_some _ (keep' b o e)
  generalize hce : genEnv scope (cloFrom X.env.cells scope.names []) s3.heap.objs.size code builtinsNs X.env = ce
  have I5 : L2.Inv X pins σ H2 { s3 with gens := s3.gens.push (.fresh (.compStart (.GeneratorExp elt [⟨tg, iter, ifs, 0⟩] scope pos) 0 (.ref it) .none ce)), toks := s3.toks + 1 + 1 + 1, heap := h'.push go } :=
    I3.call' (ch := []) rfl (Un.kept keep5) (I3.hok.kept keep5) (AllBare.push I3.bare rfl) fun b z => by simp at z
  refine h J H1 H2 _ _ hR hE hT3 I5 ⟨h'.objs.size, s3.gens.size, go, rfl, hpg, hisg, by simp, ?_⟩
  intro A cp Z fin Out W hrA hfA hturn hW hcp hZ s6 p k6 g6 o6 hcp0 hp6
  have hgs6 : s6.gens[s3.gens.size]? = some (.fresh (.compStart (.GeneratorExp elt [⟨tg, iter, ifs, 0⟩] scope pos) 0 (.ref it) .none ce)) := by rw [g6]; exact Array.getElem?_push_size ..
  refine ⟨hisg _ (k6 _ _ hpg), I5.nolimit.keeps k6, _, hgs6, ⟨rfl, ?_⟩⟩
  have kp : ∀ b o, s3.heap.get? b = some o → s6.heap.get? b = some o := fun b o e => k6 b o (keep5 b o e)
  have hb6 : AllBare s6.gens := by rw [g6]; exact I5.bare
  have hZ' : ∀ b ∈ Z, s3.heap.objs.size < b := fun b hb => by
    have := hZ b hb
    have e : (h'.push go).objs.size = s3.heap.objs.size + 1 + 1 := by rw [Heap.size_push, hsz]
    have this : (h'.push go).objs.size ≤ b := this
    omega
  have hpZ : ∀ q ∈ p, q.1 ∈ Z := fun q hq => by rw [← hcp _ _ hcp0]; exact List.mem_map.mpr ⟨q, hq, rfl⟩
  have hns : s6.heap.Ns s3.heap.objs.size (fun y => if y = ".0" then some (.ref it) else none) := (hn'.push go).keeps k6
  have aZ : h'.objs.size ∉ Z := fun hb => by
    have := hZ _ hb
    have this : (h'.push go).objs.size ≤ h'.objs.size := this
    rw [Heap.size_push] at this
    omega
  have J6 := gx_start (A := A) (code := code) (pn := [(h'.objs.size, go)]) (p := p) I3 ok hcell hN hfA hrA.hd f3 rfl (s2 := s6.setGen s3.gens.size .running) (o6.trans rfl) (allBare_setGen hb6 rfl) kp hns (fun q hq => by
    rcases List.mem_append.mp hq with hq | hq
    · rw [List.mem_singleton.mp hq]
      exact ⟨k6 _ _ hpg, by show s3.heap.objs.size < h'.objs.size; omega, hgd⟩
    · exact ⟨(hp6 q hq).1, hZ' _ (hpZ q hq), (hp6 q hq).2⟩)
  obtain ⟨m0, hW0⟩ := hW
  have hRd : Room k (gxCx X A s3 H2 scope s3.heap.objs.size code fp [(h'.objs.size, go)]).A := hrA.deeper _
  have st6 : tn 0 (s6.setGen s3.gens.size .running).heap := T2.keep _ _ _ st3 fun b _ o e => kp b o e
  have nfp : ∀ b ∈ fp, H2 b = none := fun b hb => (f3 b hb).1.1
  have hcs : ∀ x c, X.env.cells.lookup x = some c → c < s3.heap.objs.size := fun x c e => by
    obtain ⟨w, z⟩ := I3.cell x c e
    exact z.lt
  have loop := gx_loop (A := A) (iter := iter) (pos := pos) I3 hco f3 rfl (Z := Z) (pn := [(h'.objs.size, go)]) (fun q hq => by rw [List.mem_singleton.mp hq]; exact ⟨by show s3.heap.objs.size < h'.objs.size; omega, aZ⟩) hZ' hcp hcs hcl T2
    (hg A s3 H2 _ code fp _) (ht A s3 H2 _ code fp _ hRd) (he A s3 H2 _ code fp _ hRd) hturn m0 0 sizeLine [] (s6.setGen s3.gens.size .running) (s6.setGen s3.gens.size .running) p H2 (Nat.add_zero _) hW0 hcp0 (fun q hq => (hp6 q hq).1) J6 st6 nfp
  rw [hce] at loop
  show Seg _ A _ _ _ _ _ ((compStart (.GeneratorExp elt [⟨tg, iter, ifs, 0⟩] scope pos) 0 (.ref it) .none ce).onRaise (leaving ce)) [] _
  unfold compStart
  rw [Sem.onRaise_eq_wrap]
  show Seg _ A _ _ _ _ _ ((ask >>= _).wrap _ _ _ _) [] _
  refine seg_bind_wrap (wpAny_askSetting ?_)
  split
  · exact seg_again rfl loop
  · first
      | exact seg_bind_wrap (wpAny_rule (seg_bind_wrap (wpAny_standAt (seg_bind_wrap (T2.self _ 0 _ _ _ st6 (seg_again rfl loop))))))
      | (refine seg_bind_wrap (wpAny_rule ?_); show Seg _ A _ _ _ _ _ ((standAt iter.pos >>= _).wrap _ _ _ _) [] _; exact seg_bind_wrap (wpAny_standAt (seg_bind_wrap (T2.self _ 0 _ _ _ st6 (seg_again rfl loop)))))

theorem inv_to {s' : Shared} (I : L2.Inv X pins σ H s) (ho : s'.os = s.os) (hb : AllBare s'.gens) (k : ∀ b o, s.heap.get? b = some o → s'.heap.get? b = some o) : L2.Inv X pins σ H s' :=
  I.call' (ch := []) ho (Un.kept k) (I.hok.kept k) hb fun b z => by simp at z
def GF (X : Cx) (pins : List (Addr × Obj)) (σ : L2.St) (cp : Cs) (fin : List V → Hp → Prop) : Nat → Shared → Shared → Prop := fun n s₀ s1 => ∃ ys p H, ys.length ≤ sizeLine ∧ cp ys p ∧ (∀ q ∈ p, s₀.heap.get? q.1 = some q.2 ∧ s1.heap.get? q.1 = some q.2) ∧ L2.Inv X pins σ H s1 ∧ fin ys H
theorem next_gx {A : Around} {a : Addr} {gi n : Nat} {pn : List (Addr × Obj)} {cp : Cs} {fin : List V → Hp → Prop} {Out : List V → V → Hp → Prop} {Q : Option Value → Shared → Prop} {E : Value → Shared → Prop} (hh : A.handled = none) (hd : A.depth < recursionLimit)
    (hpn : ∀ h : Heap, (∀ q ∈ pn, h.get? q.1 = some q.2) → h.IsGen a gi) (hpc : ∀ ys p, cp ys p → ∀ q ∈ pn, q.1 ∉ p.map (·.1)) (al : GAlive X pins σ a gi pn cp fin Out A.in1 n s)
    (hY : ∀ (v : Value) (x : V) (ys : List V) (p : List (Addr × Obj)) (H : Hp) (s3 : Shared), ys.length < sizeLine → RelV x v → cp ys p → (∀ q ∈ p, s.heap.get? q.1 = some q.2 ∧ s3.heap.get? q.1 = some q.2) → L2.Inv X pins σ H s3 → Out ys x H →
      (∀ (p' : List (Addr × Obj)) (h' : Heap) (tk : Nat), cp (ys ++ [x]) p' → p'.map (·.1) = p.map (·.1) → (∀ q ∈ p', h'.get? q.1 = some q.2 ∧ ∀ v, q.2.data ≠ .cell v) → (∀ b o, b ∉ p.map (·.1) → s3.heap.get? b = some o → h'.get? b = some o) → h'.NoLimit →
        ∃ m, n = m + 1 ∧ GAlive X pins σ a gi pn cp fin Out A.in1 m { s3 with heap := h', toks := tk }) → Q (some v) s3)
    (hZ : ∀ (ys : List V) (p : List (Addr × Obj)) (H : Hp) (s3 : Shared), ys.length ≤ sizeLine → cp ys p → (∀ q ∈ p, s.heap.get? q.1 = some q.2 ∧ s3.heap.get? q.1 = some q.2) → L2.Inv X pins σ H s3 → fin ys H → Q none s3) :
    wpAny (model X.prog X.w) A (pyNext (.ref a)) Q E s := by
  obtain ⟨hg, hl, gs, hgs, hgo⟩ := al
  have hgl : gi < s.gens.size := (Array.getElem?_eq_some_iff.mp hgs).1
  have goes : ∀ {gs : GenState} {B : Around} {n : Nat} {r : Resume} {s : Shared}, gs.Goes (model X.prog X.w) B (GEnd X pins σ cp fin) (GYld X pins σ pn cp Out) n r s →
      gs.Goes (model X.prog X.w) B (fun n s₀ r s1 => ((r = .ok (.ret .none) ∨ r = .ok .next) ∧ GF X pins σ cp fin n s₀ s1) ∨ ∃ e, r = .error e ∧ (fun _ _ => False : Value → Shared → Prop) e s1) (GYld X pins σ pn cp Out) n r s := fun h => h
  refine wpAny_gsz (n := gi + 1) hgl (next_genG hh hl hd hg hgs (goes hgo) (fun v s₁ gs' hbare hv => ?_) (fun s₁ hp h' hk => ?_) fun e s₁ he => he.elim)
  · intro hsz
    obtain ⟨ys, x, p, H1, hn, rv, hcp, hp, I1, hq, hout, hk⟩ := hv
    have hsz1 : gi < s₁.gens.size := by
      have q : (s₁.setGen gi gs').gens.size = s₁.gens.size := setGen_size _ _ _
      have hsz' : gi + 1 ≤ (s₁.setGen gi gs').gens.size := hsz
      omega
    have hb3 : AllBare (s₁.setGen gi gs').gens := allBare_setGen I1.bare hbare
    refine hY v x ys p H1 (s₁.setGen gi gs') (by omega) rv hcp hp (inv_to I1 rfl hb3 fun _ _ e => e) hout fun p' h' tk c1 c2 c3 c4 c5 => ?_
    have kk := hk ((({ s₁.setGen gi gs' with heap := h', toks := tk } : Shared)).setGen gi .running) ⟨rfl, allBare_setGen hb3 rfl, p', c1, c2, c3, c4⟩
    cases n with
    | zero => exact kk.elim
    | succ m => exact ⟨m, rfl, hpn _ fun q hq' => c4 _ _ (hpc _ _ hcp q hq') (hq q hq'), c5, gs', setGen_at hsz1, kk⟩
  · intro hsz
    obtain ⟨ys, p, H1, h1, h2, h3, I1, h5⟩ := hp
    exact hZ ys p H1 _ h1 h2 (fun q hq => ⟨(h3 q hq).1, hk _ _ (h3 q hq).2⟩) (inv_to I1 rfl (allBare_setGen I1.bare rfl) hk) h5
end
end DV
end
section
set_option Elab.async false
set_option linter.all false
set_option maxRecDepth 100000
set_option maxHeartbeats 2000000
namespace DV
open PySem L2 PyProof.Rows PySem.Spec GenW LamX

/-! ### consumers -/
/-- nothing is kept; all that came was b -/
def cpB (b : Bool) : Cs := fun ys p => p = [] ∧ ∀ y ∈ ys, y = .bl b
def cpS (S : Addr) : Cs := fun ys p => ∃ acc c, p = [(S, lstObj acc c)] ∧ Vals ys acc.toList
section
variable {X : Cx} {pins : List (Addr × Obj)} {σ : L2.St} {H2 : Hp} {s5 : Shared}
theorem any_loop_gx {A : Around} {a : Addr} {gi : Nat} {pn : List (Addr × Obj)} {Q : Bool → Hp → Prop} {R : Result → Shared → Prop} (hh : A.handled = none) (hd : A.depth < recursionLimit) (hpn : ∀ h : Heap, (∀ q ∈ pn, h.get? q.1 = some q.2) → h.IsGen a gi)
    (hR : ∀ b H' s', L2.Inv X pins σ H' s' → Q b H' → R (.ok (.ret (.bool b))) s') : ∀ (n : Nat) (s : Shared), GAlive X pins σ a gi pn (cpB false) (fun _ H => Q false H) (fun _ y H => ∃ b, y = .bl b ∧ (b = true → Q true H)) A.in1.in1 n s →
      codeAny (model X.prog X.w) A (.builtin "any.loop" ⟨[.ref a], []⟩) R s := by
  intro n
  induction n using Nat.strongRecOn with
  | ind n ih =>
    intro s al
    refine codeAny_builtin F.entry_any_loop ?_
    rw [Around.under_plainId F.plain_any_loop _]
    show wpAny _ A.in1 (pyNext (.ref a) >>= _) _ _ s
    refine wpAny_bind (next_gx (A := A.in1) hh hd hpn (fun ys p hp q _ => by rw [hp.1]; simp) al (fun v x ys p H s3 _ rv hp _ I ho wake => ?_) fun ys p H s3 _ _ _ I hq => ?_)
    · obtain ⟨b, rfl, ho⟩ := ho
      obtain ⟨rfl, hys⟩ := hp
      have rv : v = .bool b := rv
      subst rv
      refine wpAny_bind (wpAny_holding (wpAny_truthy_bool ?_))
      refine wpAny_bind (wpAny_letGo ?_)
      cases b with
      | false =>
        simp only [Bool.not_true, Bool.not_false, Bool.false_eq_true, if_false, if_true]
        obtain ⟨m, rfl, al'⟩ := wake [] s3.heap s3.toks ⟨rfl, fun y hy => (List.mem_append.mp hy).elim (hys y) fun z => List.mem_singleton.mp z⟩ rfl (by simp) (fun _ _ _ e => e) I.nolimit
        exact wpAny_pure ⟨plainId_quiet F.plain_any_loop _, ih m (Nat.lt_succ_self m) _ al'⟩
      | true =>
        simp only [Bool.not_true, Bool.not_false, Bool.false_eq_true, if_false, if_true]
        exact wpAny_bind (wpAny_rule (wpAny_pure (hR true H s3 I (ho rfl))))
    · exact wpAny_bind (wpAny_rule (wpAny_pure (hR false H s3 I hq)))
theorem all_loop_gx {A : Around} {a : Addr} {gi : Nat} {pn : List (Addr × Obj)} {Q : Bool → Hp → Prop} {R : Result → Shared → Prop} (hh : A.handled = none) (hd : A.depth < recursionLimit) (hpn : ∀ h : Heap, (∀ q ∈ pn, h.get? q.1 = some q.2) → h.IsGen a gi)
    (hR : ∀ b H' s', L2.Inv X pins σ H' s' → Q b H' → R (.ok (.ret (.bool b))) s') : ∀ (n : Nat) (s : Shared), GAlive X pins σ a gi pn (cpB true) (fun _ H => Q true H) (fun _ y H => ∃ b, y = .bl b ∧ (b = false → Q false H)) A.in1.in1 n s →
      codeAny (model X.prog X.w) A (.builtin "all.loop" ⟨[.ref a], []⟩) R s := by
  intro n
  induction n using Nat.strongRecOn with
  | ind n ih =>
    intro s al
    refine codeAny_builtin F.entry_all_loop ?_
    rw [Around.under_plainId F.plain_all_loop _]
    show wpAny _ A.in1 (pyNext (.ref a) >>= _) _ _ s
    refine wpAny_bind (next_gx (A := A.in1) hh hd hpn (fun ys p hp q _ => by rw [hp.1]; simp) al (fun v x ys p H s3 _ rv hp _ I ho wake => ?_) fun ys p H s3 _ _ _ I hq => ?_)
    · obtain ⟨b, rfl, ho⟩ := ho
      obtain ⟨rfl, hys⟩ := hp
      have rv : v = .bool b := rv
      subst rv
      refine wpAny_bind (wpAny_holding (wpAny_truthy_bool ?_))
      refine wpAny_bind (wpAny_letGo ?_)
      cases b with
      | true =>
        simp only [Bool.not_true, Bool.not_false, Bool.false_eq_true, if_false, if_true]
        obtain ⟨m, rfl, al'⟩ := wake [] s3.heap s3.toks ⟨rfl, fun y hy => (List.mem_append.mp hy).elim (hys y) fun z => List.mem_singleton.mp z⟩ rfl (by simp) (fun _ _ _ e => e) I.nolimit
        exact wpAny_pure ⟨plainId_quiet F.plain_all_loop _, ih m (Nat.lt_succ_self m) _ al'⟩
      | false =>
        simp only [Bool.not_true, Bool.not_false, Bool.false_eq_true, if_false, if_true]
        exact wpAny_bind (wpAny_rule (wpAny_pure (hR false H s3 I (ho rfl))))
    · exact wpAny_bind (wpAny_rule (wpAny_pure (hR true H s3 I hq)))
theorem any_gx {k : Nat} {turn : (List V → Hp → Prop) → (List V → V → Hp → Prop) → (List V → Prop) → (Nat → Nat → List V → Hp → Prop) → Prop} {W : Nat → Nat → List V → Hp → Prop} {u : Value} {Q : Bool → Hp → Prop} {Q' : Value → Shared → Prop} {E : Value → Shared → Prop} (hr : Room (k + 3) X.A) (I : L2.Inv X pins σ H2 s5) (L : GxLive X pins σ k turn H2 u s5)
    (ht : turn (fun _ H => Q false H) (fun _ y H => ∃ b, y = .bl b ∧ (b = true → Q true H)) (fun ys => ∃ p, cpB false ys p) W) (hW : ∃ m, W 0 m [] H2) (hQ : ∀ b H' s', L2.Inv X pins σ H' s' → Q b H' → Q' (.bool b) s') : wpAny (model X.prog X.w) X.A (call (.builtin "any") [u]) Q' E s5 := by
  obtain ⟨a, gi, go, rfl, ha, hg, hgi, wake⟩ := L
  refine call_function_tree F.kind_any F.plain_any F.entry_any (F.args_any1 _) ?_
  unfold Builtin.«any»
  refine wpAny_bind (m := oneArg "any" _) (wpAny_pure ?_)
  refine wpAny_bind (wpAny_pyIter_gen (hg _ ha) ?_)
  refine wpAny_pure ⟨plainId_quiet F.plain_any_loop _, any_loop_gx (Q := Q) (pn := [(a, go)]) hr.hd (by have := hr.depth; exact this) (fun h hq => hg h (hq (a, go) (List.mem_singleton.mpr rfl))) (fun b H' s' I' hq => hQ b H' s' I' hq) sizeLine s5 ?_⟩
  have r3 : Room k X.A.in1.in1 := Room.in1 (Room.in1 (hr.mono (by omega)))
  exact wake _ (cpB false) [] _ _ W r3 I.ok.frames ht hW (fun ys p hp => by rw [hp.1]; rfl) (by simp) s5 [] (fun _ _ e => e) rfl rfl ⟨rfl, by simp⟩ (by simp)
theorem all_gx {k : Nat} {turn : (List V → Hp → Prop) → (List V → V → Hp → Prop) → (List V → Prop) → (Nat → Nat → List V → Hp → Prop) → Prop} {W : Nat → Nat → List V → Hp → Prop} {u : Value} {Q : Bool → Hp → Prop} {Q' : Value → Shared → Prop} {E : Value → Shared → Prop} (hr : Room (k + 3) X.A) (I : L2.Inv X pins σ H2 s5) (L : GxLive X pins σ k turn H2 u s5)
    (ht : turn (fun _ H => Q true H) (fun _ y H => ∃ b, y = .bl b ∧ (b = false → Q false H)) (fun ys => ∃ p, cpB true ys p) W) (hW : ∃ m, W 0 m [] H2) (hQ : ∀ b H' s', L2.Inv X pins σ H' s' → Q b H' → Q' (.bool b) s') : wpAny (model X.prog X.w) X.A (call (.builtin "all") [u]) Q' E s5 := by
  obtain ⟨a, gi, go, rfl, ha, hg, hgi, wake⟩ := L
  refine call_function_tree F.kind_all F.plain_all F.entry_all (F.args_all1 _) ?_
  unfold Builtin.«all»
  refine wpAny_bind (m := oneArg "all" _) (wpAny_pure ?_)
  refine wpAny_bind (wpAny_pyIter_gen (hg _ ha) ?_)
  refine wpAny_pure ⟨plainId_quiet F.plain_all_loop _, all_loop_gx (Q := Q) (pn := [(a, go)]) hr.hd (by have := hr.depth; exact this) (fun h hq => hg h (hq (a, go) (List.mem_singleton.mpr rfl))) (fun b H' s' I' hq => hQ b H' s' I' hq) sizeLine s5 ?_⟩
  have r3 : Room k X.A.in1.in1 := Room.in1 (Room.in1 (hr.mono (by omega)))
  exact wake _ (cpB true) [] _ _ W r3 I.ok.frames ht hW (fun ys p hp => by rw [hp.1]; rfl) (by simp) s5 [] (fun _ _ e => e) rfl rfl ⟨rfl, by simp⟩ (by simp)
/-- all that comes, into the list at S -/
theorem drain_gx {A : Around} {a S : Addr} {gi : Nat} {pn : List (Addr × Obj)} {Q : List V → Hp → Prop} {R : Result → Shared → Prop} {res : Value} (hh : A.handled = none) (hd : A.depth < recursionLimit) (hpn : ∀ h : Heap, (∀ q ∈ pn, h.get? q.1 = some q.2) → h.IsGen a gi) (hS : ∀ q ∈ pn, q.1 ≠ S) (hSc : S ≠ cStatics)
    (hR : ∀ ys acc c H' s', ys.length ≤ sizeLine → Vals ys acc.toList → s'.heap.get? S = some (lstObj acc c) → L2.Inv X pins σ H' s' → Q ys H' → R (.ok (.ret res)) s') : ∀ (n : Nat) (s : Shared), GAlive X pins σ a gi pn (cpS S) Q (fun _ _ _ => True) A.in1.in1 n s →
      codeAny (model X.prog X.w) A (.builtin "list.extend.loop" ⟨[.ref S, .ref a, res], []⟩) R s := by
  have hpc : ∀ ys p, cpS S ys p → ∀ q ∈ pn, q.1 ∉ p.map (·.1) := fun ys p hp q hq => by
    obtain ⟨acc, c, rfl, _⟩ := hp
    simpa using hS q hq
  have push : ∀ {ys : List V} {x : V} {v : Value} {acc : Array Value} {c : Nat} {h : Heap}, RelV x v → Vals ys acc.toList → h.get? S = some (lstObj acc c) → ∃ c', (h.update S (Obj.mapSeq (·.push v))).get? S = some (lstObj (acc.push v) c') ∧ Vals (ys ++ [x]) (acc.push v).toList := fun {ys x v acc c h} rv r e =>
    ⟨_, Heap.get?_update_self _ e rfl, by rw [Array.toList_push]; exact r.append (.cons rv .nil)⟩
  intro n
  induction n using Nat.strongRecOn with
  | ind n ih =>
    intro s al
    refine codeAny_builtin F.entry_extend_loop ?_
    rw [Around.under_plainId F.plain_extend_loop _]
    show wpAny _ A.in1 (pyNext (.ref a) >>= _) _ _ s
    refine wpAny_bind (next_gx (A := A.in1) hh hd hpn hpc al (fun v x ys p H s3 hlt rv hp he I _ wake => ?_) fun ys p H s3 hl hp he I hq => ?_)
    · obtain ⟨acc, c, rfl, r⟩ := hp
      have e := (he (S, lstObj acc c) (List.mem_singleton.mpr rfl)).2
      obtain ⟨c', e1, r1⟩ := push rv r e
      have hl := r.length
      have hsz : acc.size < sizeLine := by
        have : acc.toList.length = acc.size := by simp
        omega
      have keep3 : ∀ b o, b ≠ S → s3.heap.get? b = some o → (s3.heap.update S (Obj.mapSeq (·.push v))).get? b = some o := fun b o hbS e => (Heap.get?_update_other _ _ (Ne.symm hbS)).trans e
      obtain ⟨m, rfl, al'⟩ := wake [(S, lstObj (acc.push v) c')] (s3.heap.update S (Obj.mapSeq (·.push v))) s3.toks ⟨_, _, rfl, r1⟩ rfl (fun q hq => by
        rw [List.mem_singleton.mp hq]
        exact ⟨e1, fun v z => by cases z⟩) (fun b o hb' eo => keep3 b o (fun z => hb' (by simp [z])) eo) (by
        obtain ⟨mc, hns, hnn⟩ := I.nolimit
        exact ⟨mc, hns.at' fun o e => keep3 _ o (Ne.symm hSc) e, hnn⟩)
      show wpAny _ A.in1 (updateSeq S (·.push v) >>= _) _ _ _
      refine wpAny_bind ?_
      exact wpAny_updateSeq e rfl (wpAny_pure ⟨plainId_quiet F.plain_extend_loop _, ih m (Nat.lt_succ_self m) _ al'⟩) (Nat.le_of_lt hsz) (by show (acc.push v).size ≤ sizeLine + 1; rw [Array.size_push]; omega)
    · obtain ⟨acc, c, rfl, r⟩ := hp
      exact wpAny_pure (hR ys acc c H s3 hl r (he (S, lstObj acc c) (List.mem_singleton.mpr rfl)).2 I hq)
theorem collect_gx {k : Nat} {turn : (List V → Hp → Prop) → (List V → V → Hp → Prop) → (List V → Prop) → (Nat → Nat → List V → Hp → Prop) → Prop} {W : Nat → Nat → List V → Hp → Prop} {u : Value} {fin : List V → Hp → Prop} {A : Around} {Q : List Value → Shared → Prop} {E : Value → Shared → Prop} (hr : Room (k + 2) A) (hfr : A.frames = some X.stack) (I : L2.Inv X pins σ H2 s5) (L : GxLive X pins σ k turn H2 u s5)
    (ht : ∀ Ok, turn fin (fun _ _ _ => True) Ok W) (hW : ∃ m, W 0 m [] H2) (hQ : ∀ ys acc H' s', ys.length ≤ sizeLine → Vals ys acc → L2.Inv X pins σ H' s' → fin ys H' → Q acc s') : wpAny (model X.prog X.w) A (collect u) Q E s5 := by
  obtain ⟨a, gi, go, rfl, ha, hg, hgi, wake⟩ := L
  have haS : a < s5.heap.objs.size := Heap.lt_size ha
  have hSI : s5.heap.objs.size ≠ a := Nat.ne_of_gt haS
  have hSc : s5.heap.objs.size ≠ cStatics := Nat.ne_of_gt (let ⟨_, hns, _⟩ := I.nolimit; hns.lt)
  unfold collect
  refine wpAny_bind (wpAny_runValue (codeAny_builtin F.entry_proto_collect ?_))
  rw [Around.under_plainId F.plain_proto_collect _]
  show wpAny _ A.in1 (newList [] >>= fun l => again (.builtin "list.__iadd__" ⟨[l, .ref a], []⟩)) _ _ s5
  refine wpAny_bind (wpAny_newObj_type ?_)
  refine wpAny_pure ⟨plainId_quiet F.plain_list_iadd _, codeAny_builtin F.entry_list_iadd ?_⟩
  rw [Around.under_plainId F.plain_list_iadd _]
  have k1 : ∀ b o, s5.heap.get? b = some o → (s5.heap.push { cls := .type "list", data := .seq ([] : List Value).toArray }).get? b = some o := fun b o e => Heap.get?_push_of_some _ e
  have gty : ∀ {h : Heap}, (∀ b o, s5.heap.get? b = some o → h.get? b = some o) → h.IsGen a gi := fun {h} q => hg _ (q _ _ ha)
  show wpAny _ A.in1 (Builtin.List.listExtendWith (.ref s5.heap.objs.size) (.ref a) (.ref s5.heap.objs.size)) _ _ _
  unfold Builtin.List.listExtendWith
  refine wpAny_bind (wpAny_typeOf (Heap.IsGen.typeIs (s := { s5 with heap := _ }) (gty k1)) ?_)
  have h1 : Builtin.List.listSameRef (.ref s5.heap.objs.size) (.ref a) = false := by simp [Builtin.List.listSameRef, hSI]
  have h2 : (Value.type "generator" == Value.type "list") = false := by decide
  have h3 : (Value.type "generator" == Value.type "tuple") = false := by decide
  simp only [h1, h2, h3, Bool.or_false, Bool.false_eq_true, if_false]
  refine wpAny_bind (wpAny_pyIter_gen (s := { s5 with heap := _ }) (gty k1) ?_)
  refine wpAny_bind (wpAny_holding ?_)
  unfold Builtin.List.listLengthHint
  refine wpAny_bind (wpAny_specialOf (Heap.IsGen.typeIs (s := { s5 with heap := _ }) (gty k1)) F.gen_no_len ?_)
  show wpAny _ A.in1 (specialOf (Value.ref a) (Str.ofString "__length_hint__") >>= _) _ _ _
  refine wpAny_bind (wpAny_specialOf (Heap.IsGen.typeIs (s := { s5 with heap := _ }) (gty k1)) F.gen_no_hint ?_)
  refine wpAny_pure ?_
  show wpAny _ A.in1 (rule "list.extend.makes-room" >>= fun _ => Builtin.List.listTouch (.ref s5.heap.objs.size) >>= fun _ =>
    again (.builtin "list.extend.loop" ⟨[.ref s5.heap.objs.size, .ref a, .ref s5.heap.objs.size], []⟩)) _ _ _
  refine wpAny_bind (wpAny_rule ?_)
  have hS1 : (s5.heap.push { cls := .type "list", data := .seq ([] : List Value).toArray }).get? s5.heap.objs.size = some { cls := .type "list", data := .seq ([] : List Value).toArray } := Heap.get?_push_size _ rfl
  refine wpAny_bind ?_
  show wpAny _ A.in1 (updateSeq s5.heap.objs.size (·.push .none) >>= fun _ => updateSeq s5.heap.objs.size (·.pop)) _ _ _
  refine wpAny_bind (wpAny_updateSeq hS1 rfl ?_)
  have hS2 := Heap.get?_update_self (Obj.mapSeq (·.push Value.none)) hS1 rfl
  refine wpAny_updateSeq hS2 rfl ?_
  have hS3 := Heap.get?_update_self (Obj.mapSeq (·.pop)) hS2 rfl
  obtain ⟨c3, hS3⟩ : ∃ c, (((s5.heap.push { cls := .type "list", data := .seq ([] : List Value).toArray }).update s5.heap.objs.size (Obj.mapSeq (·.push Value.none))).update s5.heap.objs.size (Obj.mapSeq (·.pop))).get? s5.heap.objs.size = some (lstObj #[] c) := ⟨_, hS3⟩
  have oth : ∀ b o, s5.heap.get? b = some o →
      (((s5.heap.push { cls := .type "list", data := .seq ([] : List Value).toArray }).update s5.heap.objs.size (Obj.mapSeq (·.push Value.none))).update s5.heap.objs.size (Obj.mapSeq (·.pop))).get? b = some o :=
    fun b o e => (Heap.get?_update_other _ _ (Nat.ne_of_gt (Heap.lt_size e))).trans ((Heap.get?_update_other _ _ (Nat.ne_of_gt (Heap.lt_size e))).trans (k1 b o e))
  refine wpAny_pure ⟨plainId_quiet F.plain_extend_loop _, ?_⟩
  refine drain_gx (X := X) (pins := pins) (σ := σ) (gi := gi) (Q := fin) (pn := [(a, go)]) hr.hd (by have := hr.depth; exact this) (fun h hq => hg h (hq (a, go) (List.mem_singleton.mpr rfl))) (fun q hq => by rw [List.mem_singleton.mp hq]; exact Ne.symm hSI) hSc (fun ys acc c H' s' hl r e I' hq => ?_) sizeLine _ ?_
  · show wpAny _ A (load s5.heap.objs.size >>= _) _ _ s'
    refine wpAny_bind (wpAny_load e ?_)
    exact wpAny_pure (hQ ys acc.toList H' s' hl r I' hq)
  · have r2 : Room k A.in1.in1 := Room.in1 (Room.in1 hr)
    refine wake _ (cpS s5.heap.objs.size) [s5.heap.objs.size] _ _ W r2 hfr (ht _) hW (fun ys p hp => by obtain ⟨acc, c, rfl, _⟩ := hp; rfl) (by simp) _ [(s5.heap.objs.size, lstObj #[] c3)] oth rfl rfl ⟨#[], c3, rfl, .nil⟩ ?_
    intro q hq
    rw [List.mem_singleton.mp hq]
    exact ⟨hS3, fun v z => by cases z⟩

theorem gx_typeIs {k : Nat} {turn : (List V → Hp → Prop) → (List V → V → Hp → Prop) → (List V → Prop) → (Nat → Nat → List V → Hp → Prop) → Prop} {u : Value} (L : GxLive X pins σ k turn H2 u s5) : s5.TypeIs u "generator" := by
  obtain ⟨a, gi, go, rfl, ha, hg, hgi, wake⟩ := L
  exact Heap.IsGen.typeIs (hg _ ha)
theorem tuple_gx {k : Nat} {turn : (List V → Hp → Prop) → (List V → V → Hp → Prop) → (List V → Prop) → (Nat → Nat → List V → Hp → Prop) → Prop} {W : Nat → Nat → List V → Hp → Prop} {u : Value} {fin : List V → Hp → Prop} {Q : Value → Shared → Prop} {E : Value → Shared → Prop} (hr : Room (k + 5) X.A) (I : L2.Inv X pins σ H2 s5) (L : GxLive X pins σ k turn H2 u s5)
    (ht : ∀ Ok, turn fin (fun _ _ _ => True) Ok W) (hW : ∃ m, W 0 m [] H2) (hQ : ∀ ys p H' s', ys.length ≤ sizeLine → H' p = none → L2.Inv X pins σ (upd H' p (.tup ys)) s' → fin ys H' → Q (.ref p) s') : wpAny (model X.prog X.w) X.A (call (.type "tuple") [u]) Q E s5 := by
  have hT := gx_typeIs L
  obtain ⟨a, eu⟩ : ∃ a, u = .ref a := let ⟨a, _, _, e, _⟩ := L; ⟨a, e⟩
  subst eu
  have step : ∀ (A : Around), Room (k + 2) A.in1.in1 → A.frames = some X.stack → codeAny (model X.prog X.w) A (.call (.builtin "tuple.__new__") ⟨[.type "tuple", .ref a], []⟩) (wants (fun obj s₁ => s₁.TypeIs obj "tuple" ∧ Q obj s₁) E) s5 := by
    intro A hr2 hf2
    refine codeAny_of_tree ?_
    show wpAny _ A.in1 (do checkBuiltinCall "tuple.__new__" ⟨[.type "tuple", .ref a], []⟩; again (.builtin "tuple.__new__" ⟨[.type "tuple", .ref a], []⟩)) _ _ s5
    refine wpAny_bind (wpAny_of_eq (F.newCall_tuple_1 _) (wpAny_pure ⟨plainId_quiet F.plain_tuple_new _, codeAny_builtin F.entry_tuple_new ?_⟩))
    rw [Around.under_plainId F.plain_tuple_new _]
    have hsub := sub_tuple_self
    have hinit := init_tuple_lookup
    have hmh := madeHere_tuple
    wp_walk using wpAny_typeOf hT, collect_gx (A := A.in1) (Room.mono (by exact ⟨hr2.hd, hr2.dp, by have := hr2.un; have e : A.in1.in1.units = A.in1.units + 1 := rfl; omega⟩ : Room (k + 2) A.in1) (Nat.le_refl _)) hf2 I L ht hW
    intro ys acc H' s' hl r I' hq
    show wpAny _ _ (Builtin.Tuple.tupleExact acc.toArray >>= fun v => ret v) _ _ _
    unfold Builtin.Tuple.tupleExact
    have hsz : acc.length ≤ sizeLine := by rw [← r.length]; exact hl
    refine wpAny_bind (wpAny_newObj_type ?_ (by show acc.toArray.size ≤ sizeLine; simpa using hsz))
    refine wpAny_pure ?_
    have hpo : (s'.heap.push { cls := .type "tuple", data := .seq acc.toArray }).get? s'.heap.objs.size = some { cls := .type "tuple", data := .seq acc.toArray } := Heap.get?_push_size _ rfl
    refine ⟨⟨_, hpo, rfl⟩, ?_⟩
    refine hQ ys _ H' _ hl (I'.hok.fresh (Nat.le_refl _)) (I'.laid (t' := s'.toks) (fun b o e => Heap.get?_push_of_some _ e) (Nat.le_refl _) ⟨hl, acc, r, ?_⟩) hq
    exact ⟨_, hpo, rfl, _, rfl⟩
  refine callType_codes (Q₁ := fun obj s₁ => s₁.TypeIs obj "tuple" ∧ Q obj s₁) F.called_tuple (F.typeCall_tuple_1 _) F.entry_object_init (step _ ?_ ?_) fun obj s₁ h₁ => ?_
  · have r4 : Room (k + 2) X.A.in1.in1.in1 := Room.in1 (Room.in1 (Room.in1 hr))
    exact r4
  · exact I.ok.frames
  · exact ⟨h₁.1, F.args_object_init_2 obj _, object_init_meets F.called_tuple.init.lookup F.called_tuple.made (by decide) X.prog X.w X.A.in1 _ s₁ ⟨h₁.1, rfl, h₁.2⟩⟩
end
end DV
end
section
set_option Elab.async false
set_option linter.all false
set_option maxRecDepth 100000
set_option maxHeartbeats 2000000
namespace DV
open PySem L2 PyProof.Rows PySem.Spec GenW LamX

abbrev totObj (tot : Int) (t : Tok) (c : Nat) : Obj := { cls := .type "list", dict := none, data := .seq #[.int tot t] c, slots := #[] }
def cpT (S : Addr) : Cs := fun ys p => ∃ (ns : List Int) (t : Tok) (c : Nat), ys = ns.map V.int ∧ p = [(S, totObj ns.sum t c)]
section
variable {X : Cx} {pins : List (Addr × Obj)} {σ : L2.St} {H2 : Hp} {s5 : Shared}
theorem sum_loop_gx {A : Around} {a S : Addr} {gi : Nat} {pn : List (Addr × Obj)} {Q : List V → Hp → Prop} {R : Result → Shared → Prop} (hh : A.handled = none) (hd : A.depth < recursionLimit) (hpn : ∀ h : Heap, (∀ q ∈ pn, h.get? q.1 = some q.2) → h.IsGen a gi) (hS : ∀ q ∈ pn, q.1 ≠ S) (hSc : S ≠ cStatics)
    (hR : ∀ (ns : List Int) t H' s', L2.Inv X pins σ H' s' → Q (ns.map V.int) H' → R (.ok (.ret (.int ns.sum t))) s') : ∀ (n : Nat) (s : Shared) (tot : Int) (t : Tok) (c : Nat) (st : Int), (st = 0 ∨ st = 2) → s.heap.get? S = some (totObj tot t c) →
      GAlive X pins σ a gi pn (cpT S) Q (fun _ y _ => ∃ i, y = .int i) A.in1.in1 n s →
      codeAny (model X.prog X.w) A (.builtin "sum.loop" ⟨[.ref a, .ref S, rawInt st, rawInt 0], []⟩) R s := by
  have hpc : ∀ ys p, cpT S ys p → ∀ q ∈ pn, q.1 ∉ p.map (·.1) := fun ys p hp q hq => by
    obtain ⟨ns, t, c, _, rfl⟩ := hp
    simpa using hS q hq
  intro n
  induction n using Nat.strongRecOn with
  | ind n ih =>
    intro s tot t c st hst2 hS0 al
    refine codeAny_builtin F.entry_sum_loop ?_
    rw [Around.under_plainId F.plain_sum_loop _]
    show wpAny _ A.in1 (seqItems? (.ref S) >>= _) _ _ s
    refine wpAny_bind (wpAny_seqItems hS0 rfl ?_)
    show wpAny _ A.in1 (tryCatch (pyNext (.ref a)) _ >>= _) _ _ s
    refine wpAny_bind (wpAny_tryCatch (next_gx (A := A.in1) hh hd hpn hpc al (fun v x ys p H s3 hlt rv hp he I ho wake => ?_) fun ys p H s3 hl hp he I hq => ?_))
    · obtain ⟨ns, t', c', rfl, rfl⟩ := hp
      obtain ⟨e0, e3⟩ := he (S, totObj ns.sum t' c') (List.mem_singleton.mpr rfl)
      have e0 : s.heap.get? S = some (totObj ns.sum t' c') := e0
      rw [hS0] at e0
      injection e0 with e0
      injection e0 with _ _ e0 _
      injection e0 with e0 e9
      have e8 : (Value.int tot t) = .int ns.sum t' := by
        have := congrArg (fun a => a[0]?) e0
        simpa using this
      injection e8 with e8 e7
      subst e8 e7 e9
      obtain ⟨i, rfl⟩ := ho
      obtain ⟨ti, rfl⟩ := id rv
      have keep3 : ∀ (f : Obj → Obj) b o, b ≠ S → s3.heap.get? b = some o → (s3.heap.update S f).get? b = some o := fun f b o hbS e => (Heap.get?_update_other _ _ (Ne.symm hbS)).trans e
      have lim3 : ∀ f : Obj → Obj, (s3.heap.update S f).NoLimit := fun f => by
        obtain ⟨mc, hns, hnn⟩ := I.nolimit
        exact ⟨mc, hns.at' fun o e => keep3 f _ o (Ne.symm hSc) e, hnn⟩
      have hsum : (ns ++ [i]).sum = ns.sum + i := by simp
      have hmap : (ns.map V.int) ++ [V.int i] = (ns ++ [i]).map V.int := by simp
      have go : ∀ (st' : Int) (h' : Heap) (t' : Tok) (c' tk : Nat), (st' = 0 ∨ st' = 2) → h'.get? S = some (totObj (ns.sum + i) t' c') → (∀ b o, b ≠ S → s3.heap.get? b = some o → h'.get? b = some o) → h'.NoLimit →
          codeAny (model X.prog X.w) A (.builtin "sum.loop" ⟨[.ref a, .ref S, rawInt st', rawInt 0], []⟩) R { s3 with heap := h', toks := tk } := fun st' h' t' c' tk h1 h2 h3 h4 => by
        obtain ⟨m, rfl, al'⟩ := wake [(S, totObj (ns.sum + i) t' c')] h' tk ⟨ns ++ [i], t', c', hmap, by rw [hsum]⟩ rfl (fun q hq => by
          rw [List.mem_singleton.mp hq]
          exact ⟨h2, fun v z => by cases z⟩) (fun b o hb' eo => h3 b o (fun z => hb' (by simp [z])) eo) h4
        exact ih m (Nat.lt_succ_self m) _ _ t' c' st' h1 h2 al'
      rcases hst2 with rfl | rfl
      · show wpAny _ A.in1 (if (_ : Bool) = true then (mkInt (ns.sum + i) >>= _) else _) _ _ _
        split
        · refine wpAny_bind (wpAny_mkInt ?_)
          show wpAny _ A.in1 (updateSeq S (fun _ => #[.int (ns.sum + i) s3.toks]) >>= _) _ _ _
          refine wpAny_bind ?_
          exact wpAny_updateSeq e3 rfl (wpAny_pure ⟨plainId_quiet F.plain_sum_loop _, go 0 _ _ _ _ (.inl rfl) (Heap.get?_update_self _ e3 rfl) (keep3 _) (lim3 _)⟩)
        · refine wpAny_bind (wpAny_rule ?_)
          refine wpAny_bind (wpAny_attempt (wpAny_holding (wpAny_add_int ?_)))
          show wpAny _ A.in1 (updateSeq S (fun _ => #[.int (ns.sum + i) s3.toks]) >>= _) _ _ _
          refine wpAny_bind (wpAny_updateSeq e3 rfl ?_)
          have hS2 := Heap.get?_update_self (Obj.mapSeq fun _ => #[Value.int (ns.sum + i) s3.toks]) e3 rfl
          refine wpAny_bind (wpAny_letGo ?_)
          refine wpAny_bind (wpAny_updateSeq hS2 rfl (wpAny_pure ⟨plainId_quiet F.plain_sum_loop _, go 2 _ _ _ _ (.inr rfl) (Heap.get?_update_self _ hS2 rfl) (fun b o hb e => (Heap.get?_update_other _ _ (Ne.symm hb)).trans (keep3 _ b o hb e)) ?_⟩))
          obtain ⟨mc, hns, hnn⟩ := I.nolimit
          exact ⟨mc, hns.at' fun o e => (Heap.get?_update_other _ _ hSc).trans (keep3 _ _ o (Ne.symm hSc) e), hnn⟩
      · show wpAny _ A.in1 ((holding [Value.int i ti] (binaryOp .Add (.int ns.sum t) (.int i ti))).attempt >>= _) _ _ _
        refine wpAny_bind (wpAny_attempt (wpAny_holding (wpAny_add_int ?_)))
        show wpAny _ A.in1 (updateSeq S (fun _ => #[.int (ns.sum + i) s3.toks]) >>= _) _ _ _
        refine wpAny_bind (wpAny_updateSeq e3 rfl ?_)
        have hS2 := Heap.get?_update_self (Obj.mapSeq fun _ => #[Value.int (ns.sum + i) s3.toks]) e3 rfl
        refine wpAny_bind (wpAny_letGo ?_)
        refine wpAny_bind (wpAny_updateSeq hS2 rfl (wpAny_pure ⟨plainId_quiet F.plain_sum_loop _, go 2 _ _ _ _ (.inr rfl) (Heap.get?_update_self _ hS2 rfl) (fun b o hb e => (Heap.get?_update_other _ _ (Ne.symm hb)).trans (keep3 _ b o hb e)) ?_⟩))
        obtain ⟨mc, hns, hnn⟩ := I.nolimit
        exact ⟨mc, hns.at' fun o e => (Heap.get?_update_other _ _ hSc).trans (keep3 _ _ o (Ne.symm hSc) e), hnn⟩
    · obtain ⟨ns, t', c', rfl, rfl⟩ := hp
      obtain ⟨e0, e3⟩ := he (S, totObj ns.sum t' c') (List.mem_singleton.mpr rfl)
      have e0 : s.heap.get? S = some (totObj ns.sum t' c') := e0
      rw [hS0] at e0
      injection e0 with e0
      injection e0 with _ _ e0 _
      injection e0 with e0 e9
      have e8 : (Value.int tot t) = .int ns.sum t' := by
        have := congrArg (fun a => a[0]?) e0
        simpa using this
      injection e8 with e8 e7
      subst e8 e7
      exact wpAny_pure (hR ns t H s3 I hq)
theorem sum_gx {k : Nat} {turn : (List V → Hp → Prop) → (List V → V → Hp → Prop) → (List V → Prop) → (Nat → Nat → List V → Hp → Prop) → Prop} {W : Nat → Nat → List V → Hp → Prop} {u : Value} {fin : List V → Hp → Prop} {Q' : Value → Shared → Prop} {E : Value → Shared → Prop} (hr : Room (k + 3) X.A) (I : L2.Inv X pins σ H2 s5) (L : GxLive X pins σ k turn H2 u s5)
    (ht : ∀ Ok, turn fin (fun _ y _ => ∃ i, y = .int i) Ok W) (hW : ∃ m, W 0 m [] H2) (hQ : ∀ (ns : List Int) t H' s', L2.Inv X pins σ H' s' → fin (ns.map V.int) H' → Q' (.int ns.sum t) s') : wpAny (model X.prog X.w) X.A (call (.builtin "sum") [u]) Q' E s5 := by
  obtain ⟨a, gi, go, rfl, ha, hg, hgi, wake⟩ := L
  have haS : a < s5.heap.objs.size := Heap.lt_size ha
  have hSI : s5.heap.objs.size ≠ a := Nat.ne_of_gt haS
  have hSc : s5.heap.objs.size ≠ cStatics := Nat.ne_of_gt (let ⟨_, hns, _⟩ := I.nolimit; hns.lt)
  refine call_function_tree F.kind_sum F.plain_sum F.entry_sum (F.args_sum1 _) ?_
  unfold Builtin.«sum»
  simp only [List.length_cons, List.length_nil]
  rw [if_neg (by decide)]
  refine wpAny_bind (wpAny_of_eq (show Builtin.Builtins.bindParams "sum" ["start"] 0 { } = pure [none] from rfl) ?_)
  refine wpAny_bind (wpAny_pyIter_gen (hg _ ha) ?_)
  refine wpAny_bind (wpAny_mkInt ?_)
  refine wpAny_bind (wpAny_pure ?_)
  simp only [List.forIn_cons, List.forIn_nil]
  refine wpAny_bind (wpAny_bind (wpAny_bind (wpAny_isInstance (T := "int") (b := false) (typeIs_int _ _ _) PySem.sub_int_str ?_)))
  simp only [Bool.false_eq_true, if_false]
  refine wpAny_pure (wpAny_bind (wpAny_bind (wpAny_isInstance (T := "int") (b := false) (typeIs_int _ _ _) PySem.sub_int_bytes ?_)))
  simp only [Bool.false_eq_true, if_false]
  refine wpAny_pure (wpAny_bind (wpAny_bind (wpAny_isInstance (T := "int") (b := false) (typeIs_int _ _ _) PySem.sub_int_bytearray ?_)))
  simp only [Bool.false_eq_true, if_false]
  refine wpAny_pure (wpAny_pure ?_)
  refine wpAny_bind (wpAny_newObj_type ?_)
  have hpo : (s5.heap.push (totObj 0 s5.toks 0)).get? s5.heap.objs.size = some (totObj 0 s5.toks 0) := Heap.get?_push_size _ rfl
  refine wpAny_pure ⟨plainId_quiet F.plain_sum_loop _, sum_loop_gx (X := X) (pins := pins) (σ := σ) (gi := gi) (Q := fin) (pn := [(a, go)]) hr.hd (by have := hr.depth; exact this) (fun h hq => hg h (hq (a, go) (List.mem_singleton.mpr rfl)))
    (fun q hq => by rw [List.mem_singleton.mp hq]; exact Ne.symm hSI) hSc (fun ns t H' s' I' hq => hQ ns t H' s' I' hq) sizeLine _ 0 s5.toks 0 0 (.inl rfl) hpo ?_⟩
  have r3 : Room k X.A.in1.in1 := Room.in1 (Room.in1 (hr.mono (by omega)))
  refine wake _ (cpT s5.heap.objs.size) [s5.heap.objs.size] _ _ W r3 I.ok.frames (ht _) hW (fun ys p hp => by obtain ⟨ns, t, c, _, rfl⟩ := hp; rfl) (by simp) _ [(s5.heap.objs.size, totObj 0 s5.toks 0)] (fun b o e => Heap.get?_push_of_some _ e) rfl rfl ⟨[], s5.toks, 0, rfl, rfl⟩ ?_
  intro q hq
  rw [List.mem_singleton.mp hq]
  exact ⟨hpo, fun v z => by cases z⟩
end
end DV
end
section
set_option Elab.async false
set_option linter.all false
set_option maxRecDepth 100000
set_option maxHeartbeats 2000000
namespace DV
open PySem L2 PyProof.Rows PySem.Spec GenW LamX

/-- a generator expression, run by its consumer: tk: what the consumer makes of an item, and if it goes on -/
def gxN {S : Type} (it : IT) (mg : MG) (mt : MT) (me : ME) (tk : S → D → Option (S × Bool)) : Nat → Nat → AS → S → AH → Rv S
  | 0, _, _, _, _ => .stuck
  | n + 1, i, σ, st, h => match it i h with
    | .stop => .ok st h
    | .bad => .stuck
    | .go d => match mg d σ h with
      | .ok σ1 h1 => bindR (noX (mt σ1 h1)) fun k h2 => if k = true then bindR (noX (me σ1 h2)) fun y h3 => match tk st y with
          | none => .stuck
          | some (st', true) => gxN it mg mt me tk n (i + 1) σ st' h3
          | some (st', false) => .ok st' h3
          else gxN it mg mt me tk n (i + 1) σ st h2
      | _ => .stuck
def mGx {S : Type} (mi : MI) (vs : List Nat) (mg : MG) (mt : MT) (me : ME) (tk : S → D → Option (S × Bool)) (st : S) (fk : S → AH → Rv D) : ME := fun σ h => bindR (mi σ h) fun it h1 => bindR (gxN it mg mt me tk sizeLine 0 (wipeA σ vs) st h1) fk
section
variable {X : Cx} {g : G} {W : WX} {F1 : Kn} {ι1 : List Addr} {mi : MI} {mg : MG} {mt : MT} {me : ME} {is vs : List Nat} {S : Type} {tk : S → D → Option (S × Bool)} {fk : S → AH → Rv D}
def gFin (g : G) (W : WX) (F1 : Kn) (ι1 : List Addr) (σv : L2.St) (fk : S → AH → Rv D) (rel : S → Kn → List Addr → List V → Prop) (Q : VK) : List V → Hp → Prop := fun ys H =>
  ∃ F ι h st, Le F1 ι1 F ι ∧ HR g F ι h H ∧ rel st F ι ys ∧ Post g W F1 ι1 σv (VR g) (fk st h) Q
def gOut (g : G) (W : WX) (F1 : Kn) (ι1 : List Addr) (σv : L2.St) (tk : S → D → Option (S × Bool)) (fk : S → AH → Rv D) (rel : S → Kn → List Addr → List V → Prop) (Q : VK) : List V → V → Hp → Prop := fun ys y H =>
  ∃ F ι h st d st' b, Le F1 ι1 F ι ∧ HR g F ι h H ∧ rel st F ι ys ∧ VR g F ι d y ∧ tk st d = some (st', b) ∧ (b = false → Post g W F1 ι1 σv (VR g) (fk st' h) Q)
theorem gx_turn {σ : AS} {σv : L2.St} {it : IT} {J : It} {rel : S → Kn → List Addr → List V → Prop} {Ok : List V → Prop} {Q : VK} (hs : ∀ i ∈ is, i ∈ vs) (lr1 : LR g F1 ι1 σ σv) (r1 : JR g F1 ι1 it J)
    (rm : ∀ st F ι F' ι' ys, Le F ι F' ι' → rel st F ι ys → rel st F' ι' ys) (ok : ∀ st d st' b F ι ys y, tk st d = some (st', b) → rel st F ι ys → VR g F ι d y → Ok (ys ++ [y]) → b = true ∧ rel st' F ι (ys ++ [y])) :
    gxTurn (tG g W0 is mg) (tT g W0 mt) (tE g W0 me) vs σv J (gFin g W F1 ι1 σv fk rel Q) (gOut g W F1 ι1 σv tk fk rel Q) Ok
      (fun i m ys H => i + m = sizeLine ∧ ys.length ≤ i ∧ ∃ F ι h st, Le F1 ι1 F ι ∧ HR g F ι h H ∧ rel st F ι ys ∧ Post g W F1 ι1 σv (VR g) (bindR (gxN it mg mt me tk m i (wipeA σ vs) st h) fk) Q) := by
  rintro i m ys H ⟨him, hyi, F, ι, h, st, lf, hr, rl, p⟩
  cases m with
  | zero => exact p.elim
  | succ n =>
    have hj := r1 _ ι i h H lf.toLf hr
    unfold gxN at p
    revert p hj
    cases it i h with
    | stop => exact fun hj p => .inl ⟨hj, F, ι, h, st, lf, hr, rl, p⟩
    | bad => exact fun _ p => p.elim
    | go d =>
      intro hj p
      obtain ⟨go, yld⟩ := hj
      refine .inr ⟨go, fun ys' H' => i + 1 + n = sizeLine ∧ ys'.length ≤ i + 1 ∧ ∃ F ι h st, Le F1 ι1 F ι ∧ HR g F ι h H' ∧ rel st F ι ys' ∧ Post g W F1 ι1 σv (VR g) (bindR (gxN it mg mt me tk n (i + 1) (wipeA σ vs) st h) fk) Q,
        fun ys' H' w => ⟨n, Nat.lt_succ_self n, w⟩, fun x H' hy => ?_⟩
      obtain ⟨F2, l2, hr2, r2⟩ := yld x H' hy
      have lr2 : LR g F2 ι (wipeA σ vs) (L2.wipe σv vs) := ((lr1.mono lf).mono l2).wipe vs
      refine ⟨F2, ι, wipeA σ vs, h, d, hr2, lr2, r2, ?_⟩
      revert p
      dsimp only
      cases mg d (wipeA σ vs) h with
      | ok σ3 h3 =>
        intro p F3 ι3 H3 σv3 l3 hr3 lr3 sb3
        refine ⟨wipe_same2 sb3 hs, ?_⟩
        have lf3 := lf.trans (l2.trans l3)
        have rl3 := rm _ _ _ _ _ _ (l2.trans l3) rl
        have p' : Post g W F1 ι1 σv (VR g) (bindR (bindR (noX (mt σ3 h3)) fun k h2 => if k = true then bindR (noX (me σ3 h2)) fun y h3 => match tk st y with
          | none => .stuck
          | some (st', true) => gxN it mg mt me tk n (i + 1) (wipeA σ vs) st' h3
          | some (st', false) => .ok st' h3
          else gxN it mg mt me tk n (i + 1) (wipeA σ vs) st h2) fk) Q := p
        rw [bindR_assoc] at p'
        clear p
        refine ⟨F3, ι3, σ3, h3, hr3, lr3, ?_⟩
        revert p'
        cases mt σ3 h3 with
        | exc c h4 => exact fun p => p.elim
        | stuck => exact fun p => p.elim
        | ok k h4 =>
          intro p F4 ι4 H4 b l4 hr4 eb
          subst eb
          have lf4 := lf3.trans l4
          have rl4 := rm _ _ _ _ _ _ l4 rl3
          have p : Post g W F1 ι1 σv (VR g) (bindR (if b = true then bindR (noX (me σ3 h4)) fun y h3 => match tk st y with
            | none => .stuck
            | some (st', true) => gxN it mg mt me tk n (i + 1) (wipeA σ vs) st' h3
            | some (st', false) => .ok st' h3
            else gxN it mg mt me tk n (i + 1) (wipeA σ vs) st h4) fk) Q := p
          by_cases hb : b = true
          · rw [if_pos hb] at p ⊢
            refine ⟨F4, ι4, σ3, h4, hr4, lr3.mono l4, ?_⟩
            revert p
            cases me σ3 h4 with
            | exc c h5 => exact fun p => p.elim
            | stuck => exact fun p => p.elim
            | ok y h5 =>
              intro p F5 ι5 H5 u l5 hr5 r5
              have lf5 := lf4.trans l5
              have rl5 := rm _ _ _ _ _ _ l5 rl4
              have p : Post g W F1 ι1 σv (VR g) (bindR (match tk st y with
                | none => .stuck
                | some (st', true) => gxN it mg mt me tk n (i + 1) (wipeA σ vs) st' h5
                | some (st', false) => .ok st' h5) fk) Q := p
              refine ⟨by omega, ?_⟩
              cases e : tk st y with
              | none =>
                rw [e] at p
                exact p.elim
              | some q =>
                obtain ⟨st', b'⟩ := q
                rw [e] at p
                refine ⟨⟨F5, ι5, h5, st, y, st', b', lf5, hr5, rl5, r5, e, fun z => ?_⟩, fun hok => ?_⟩
                · subst z
                  exact p
                · obtain ⟨z, rl6⟩ := ok st y st' b' F5 ι5 ys u e rl5 r5 hok
                  subst z
                  exact ⟨by omega, by rw [List.length_append]; simp only [List.length_cons, List.length_nil]; omega, F5, ι5, h5, st', lf5, hr5, rl6, p⟩
          · rw [if_neg hb] at p ⊢
            exact ⟨by omega, by omega, F4, ι4, h4, st, lf4, hr4, rl4, p⟩
      | exc c h3 => exact fun p => p.elim
      | stuck => exact fun p => p.elim
end
end DV
end
section
set_option Elab.async false
set_option linter.all false
set_option maxRecDepth 100000
set_option maxHeartbeats 2000000
namespace DV
open PySem L2 PyProof.Rows PySem.Spec GenW LamX

/-- an expression that makes a generator -/
structure GxP (X : Cx) (g : G) (W : WX) (k : Nat) (e : Expr) (mi : MI) (vs is : List Nat) (mg : MG) (mt : MT) (me : ME) : Prop where
  sub : ∀ i ∈ is, i ∈ vs
  run : ∀ (pins : List (Addr × Obj)) (s : Shared) (σv : L2.St) (H : Hp) (R : It → Hp → Prop) (Q' : Value → Shared → Prop), L2.Inv X pins σv H s → tI g W mi σv H R →
    (∀ (J : It) (H1 H2 : Hp) (u : Value) (s5 : Shared), R J H1 → ExtN H1 H2 → g.Ti H2 → L2.Inv X pins σv H2 s5 → GxLive X pins σv (k + 1) (gxTurn (tG g W0 is mg) (tT g W0 mt) (tE g W0 me) vs σv J) H2 u s5 → Q' u s5) →
      wpAny (model X.prog X.w) X.A (eval e X.env) Q' X.xe s
section
variable {X : Cx} {g : G} {W : WX} {mi : MI} {mg : MG} {mt : MT} {me : ME} {is vs : List Nat} {k : Nat} {e : Expr}
theorem gxp_of {T : List (Addr × Str)} {c P : Addr} {elt tg iter : Expr} {ifs : List Expr} {scope : Scope} {own : List (Str × Nat)} {pos : Pos} (hTi : g.Ti = Tabs T) (hd : X.A.depth < recursionLimit) (TB : TabB X.base X.mg c P) (hcode : X.env.code = .ref c)
    (hm : (P, X.env.qual ++ "<genexpr>") ∈ T) (hu : ∀ p ∈ T, p.1 = P → p.2 = X.env.qual ++ "<genexpr>") (hN : X.N.Nodup) (ok : BlkOk X.N X.env.scope scope own) (hvs : own.map (·.2) = vs) (hsub : ∀ i ∈ is, i ∈ vs)
    (hcell : ∀ y ∈ scope.names, y.2 ≠ .cell) (hco : scope.isCoroutine = false) (h0 : scope.names.lookup (".0" : Str) = some NameKind.local) (hi : PI X tg iter (tI g W mi))
    (hg : ∀ (A : Around) (s : Shared) (H : Hp) (C : Addr) (code : Value) (fp : List Addr) (pn : List (Addr × Obj)), PG (gxCx X A s H scope C code fp pn) tg (tG g W0 is mg))
    (ht : ∀ (A : Around) (s : Shared) (H : Hp) (C : Addr) (code : Value) (fp : List Addr) (pn : List (Addr × Obj)), Room k (gxCx X A s H scope C code fp pn).A → PTs (gxCx X A s H scope C code fp pn) ifs (tT g W0 mt))
    (he : ∀ (A : Around) (s : Shared) (H : Hp) (C : Addr) (code : Value) (fp : List Addr) (pn : List (Addr × Obj)), Room k (gxCx X A s H scope C code fp pn).A → PE (gxCx X A s H scope C code fp pn) elt (tE g W0 me))
    (hs : ∀ x, genFold iter X.env x = pure x := by intro _; rfl) : GxP X g W k (.GeneratorExp elt [⟨tg, iter, ifs, 0⟩] scope pos) mi vs is mg mt me := by
  subst hvs
  refine ⟨hsub, fun pins s σv H R Q' I hw h => ?_⟩
  refine gx_make (R := R) hd I TB hcode hm hu hN ok hcell hco h0 hi hg ht he hs ?_ fun J H1 H2 u s5 hR hE hT I5 L => h J H1 H2 u s5 hR hE (by rw [hTi]; exact hT) I5 L
  obtain ⟨F, ι, σ, h1, hr, lr, p⟩ := hw
  refine ⟨F, ι, σ, h1, hr, lr, ?_⟩
  revert p
  cases mi σ h1 with
  | ok it h2 => exact fun p F' ι' H' J l hr' r => ⟨by rw [← hTi]; exact hr'.ti, p F' ι' H' J l hr' r⟩
  | exc c h2 => exact fun p => p
  | stuck => exact fun p => p
/-- what stands where the generator has been made -/
def gMid {S : Type} (g : G) (W : WX) (σv : L2.St) (mg : MG) (mt : MT) (me : ME) (vs : List Nat) (tk : S → D → Option (S × Bool)) (st : S) (fk : S → AH → Rv D) (Q : VK) : It → Hp → Prop := fun J H1 =>
  ∃ F1 ι1 σ h1 it, HR g F1 ι1 h1 H1 ∧ LR g F1 ι1 σ σv ∧ JR g F1 ι1 it J ∧ Post g W F1 ι1 σv (VR g) (bindR (gxN it mg mt me tk sizeLine 0 (wipeA σ vs) st h1) fk) Q
theorem gx_in {S : Type} {tk : S → D → Option (S × Bool)} {st : S} {fk : S → AH → Rv D} {σv : L2.St} {H : Hp} {Q : VK} (h : tE g W (mGx mi vs mg mt me tk st fk) σv H Q) : tI g W mi σv H (gMid g W σv mg mt me vs tk st fk Q) := by
  obtain ⟨F, ι, σ, h, hr, lr, p⟩ := h
  exact tM_bind (f := fun σ it h1 => bindR (gxN it mg mt me tk sizeLine 0 (wipeA σ vs) st h1) fk) hr lr p fun F1 ι1 H1 it h1 J l hr1 lr1 r1 p1 => ⟨F1, ι1, σ, h1, it, hr1, lr1, r1, p1⟩
/-- .. and its turns -/
theorem gx_go {S : Type} {tk : S → D → Option (S × Bool)} {st : S} {fk : S → AH → Rv D} {σv : L2.St} {H1 H2 : Hp} {J : It} {Q : VK} {rel : S → Kn → List Addr → List V → Prop} (G : GxP X g W k e mi vs is mg mt me) (m : gMid g W σv mg mt me vs tk st fk Q J H1) (hE : ExtN H1 H2) (hT : g.Ti H2)
    (rm : ∀ st F ι F' ι' ys, Le F ι F' ι' → rel st F ι ys → rel st F' ι' ys) (r0 : ∀ F ι, rel st F ι []) :
    ∃ F1 ι1 W', (∃ m, W' 0 m [] H2) ∧ ∀ Ok : List V → Prop, (∀ st d st' b F ι ys y, tk st d = some (st', b) → rel st F ι ys → VR g F ι d y → Ok (ys ++ [y]) → b = true ∧ rel st' F ι (ys ++ [y])) →
      gxTurn (tG g W0 is mg) (tT g W0 mt) (tE g W0 me) vs σv J (gFin g W F1 ι1 σv fk rel Q) (gOut g W F1 ι1 σv tk fk rel Q) Ok W' := by
  obtain ⟨F1, ι1, σ, h1, it, hr1, lr1, r1, p1⟩ := m
  exact ⟨F1, ι1, _, ⟨sizeLine, Nat.zero_add _, Nat.le_refl _, F1, ι1, h1, st, .refl, hr1.ext hE hT, r0 _ _, p1⟩, fun Ok ok => gx_turn G.sub lr1 r1 rm ok⟩

theorem tM_mono {α β : Type} {rel : Kn → List Addr → α → β → Prop} {m : AS → AH → Rv α} {σv : L2.St} {H : Hp} {Q Q' : β → Hp → Prop} (h : tM g W rel m σv H Q) (k : ∀ v H', Q v H' → Q' v H') : tM g W rel m σv H Q' := by
  obtain ⟨F, ι, σ, h, hr, lr, p⟩ := h
  refine ⟨F, ι, σ, h, hr, lr, ?_⟩
  revert p
  cases m σ h with
  | ok a h1 => exact fun p F' ι' H' v l hr' r => k _ _ (p F' ι' H' v l hr' r)
  | exc c h1 => exact fun p => p
  | stuck => exact fun p => p
theorem tG_mono {m : MG} {v : V} {σv : L2.St} {H : Hp} {Q Q' : L2.St → Hp → Prop} (h : tG g W is m v σv H Q) (k : ∀ σ H', Q σ H' → Q' σ H') : tG g W is m v σv H Q' := by
  obtain ⟨F, ι, σ, h, d, hr, lr, rv, p⟩ := h
  refine ⟨F, ι, σ, h, d, hr, lr, rv, ?_⟩
  revert p
  cases m d σ h with
  | ok a h1 => exact fun p F' ι' H' v l hr' r sb => k _ _ (p F' ι' H' v l hr' r sb)
  | exc c h1 => exact fun p => p
  | stuck => exact fun p => p
def tkAny (st : Bool) (d : D) : Option (Bool × Bool) := match d with | .bl true => some (true, false) | .bl false => some (false, true) | _ => none
def tkAll (st : Bool) (d : D) : Option (Bool × Bool) := match d with | .bl true => some (true, true) | .bl false => some (false, false) | _ => none
def tkCol (st : List D) (d : D) : Option (List D × Bool) := some (st ++ [d], true)
def tkSum (st : Int) (d : D) : Option (Int × Bool) := match d with | .int i => some (st + i, true) | _ => none
def fkB (b : Bool) (h : AH) : Rv D := .ok (.bl b) h
def fkT (ds : List D) (h : AH) : Rv D := .ok (.tup ds) h
def fkI (i : Int) (h : AH) : Rv D := .ok (.int i) h
theorem tkAny_some {st st' b : Bool} {d : D} (h : tkAny st d = some (st', b)) : d = .bl st' ∧ b = !st' := by
  unfold tkAny at h
  split at h <;> cases h <;> exact ⟨rfl, rfl⟩
theorem tkAll_some {st st' b : Bool} {d : D} (h : tkAll st d = some (st', b)) : d = .bl st' ∧ b = st' := by
  unfold tkAll at h
  split at h <;> cases h <;> exact ⟨rfl, rfl⟩
theorem tkSum_some {st st' : Int} {b : Bool} {d : D} (h : tkSum st d = some (st', b)) : ∃ i, d = .int i ∧ st' = st + i ∧ b = true := by
  unfold tkSum at h
  split at h <;> cases h
  exact ⟨_, rfl, rfl, rfl⟩
variable {p pos : Pos} {elt : Expr} {gs : List Comprehension} {scope : Scope} {gpos : Pos}
theorem em_any (hr : Room (k + 4) X.A) (hg : Gl X "any") (hm : X.mg "any" = none) (G : GxP X g W k (.GeneratorExp elt gs scope gpos) mi vs is mg mt me)
    (he : starEach [.GeneratorExp elt gs scope gpos] X.env = (false, eval (.GeneratorExp elt gs scope gpos) X.env) :: starEach [] X.env := by rfl) :
    PE X (.Call (.Name "any" p) [.GeneratorExp elt gs scope gpos] [] pos) (tE g W (mGx mi vs mg mt me tkAny false fkB)) := by
  refine ⟨fun pins s σ H Q I h => ?_⟩
  refine wpAny_Call_Name_kw (ld_blt I hg hm boot_any ?_)
  refine PyProof.Rows.callWith_builtin1 ?_ he (by rfl)
  rw [he]
  show wpAny _ _ (spliced ((false, eval (.GeneratorExp elt gs scope gpos) X.env) :: backTo pos (starEach [] X.env))) _ _ s
  refine Calls.spliced_cons (G.run pins s σ H _ _ I (gx_in h) fun J H1 H2 u s5 hR hE hT I5 L => ?_)
  refine Calls.spliced_nil ?_
  obtain ⟨F1, ι1, W', hW', turn⟩ := gx_go (rel := fun st _ _ ys => st = false ∧ ∀ y ∈ ys, y = .bl false) G hR hE hT (fun _ _ _ _ _ _ _ r => r) fun _ _ => ⟨rfl, by simp⟩
  have t2 := turn (fun ys => ∃ p, cpB false ys p) fun st d st' b F ι ys y h1 h2 h3 h4 => by
    obtain ⟨p, _, h4⟩ := h4
    obtain ⟨rfl, rfl⟩ := tkAny_some h1
    simp only [VR] at h3
    have := h4 y (by simp)
    rw [h3] at this
    cases this
    exact ⟨rfl, rfl, h4⟩
  refine any_gx (Q := fun b H => Q (.bl b) H) hr I5 L ?_ hW' fun b H' s' I' hq => ⟨.bl b, H', I', rfl, hq⟩
  intro i m ys H hw
  rcases t2 i m ys H hw with ⟨a, F, ι, h, st, lf, hr', rl, p⟩ | ⟨a, Nx, b1, b2⟩
  · refine .inl ⟨a, ?_⟩
    obtain ⟨rfl, _⟩ := rl
    exact p F ι H (.bl false) lf hr' (by simp [VR])
  · refine .inr ⟨a, Nx, b1, fun x H' hy => ?_⟩
    exact tG_mono (b2 x H' hy) fun σ2 H2 ⟨c1, c2⟩ => ⟨c1, tM_mono c2 fun b H3 c3 => by
      cases b with
      | false => exact c3
      | true =>
        simp only [if_true] at c3 ⊢
        exact tM_mono c3 fun y H4 ⟨d1, ⟨F, ι, h, st, d, st', b, lf, hr', rl, rv, e, q⟩, d3⟩ => ⟨d1, by
          obtain ⟨rfl, rfl⟩ := tkAny_some e
          simp only [VR] at rv
          exact ⟨st', rv, fun z => by
            subst z
            exact q rfl F ι H4 (.bl true) lf hr' (by simp [VR])⟩, d3⟩⟩
theorem em_all (hr : Room (k + 4) X.A) (hg : Gl X "all") (hm : X.mg "all" = none) (hb : bootBuiltins "all" = some (.builtin "all")) (G : GxP X g W k (.GeneratorExp elt gs scope gpos) mi vs is mg mt me)
    (he : starEach [.GeneratorExp elt gs scope gpos] X.env = (false, eval (.GeneratorExp elt gs scope gpos) X.env) :: starEach [] X.env := by rfl) :
    PE X (.Call (.Name "all" p) [.GeneratorExp elt gs scope gpos] [] pos) (tE g W (mGx mi vs mg mt me tkAll true fkB)) := by
  refine ⟨fun pins s σ H Q I h => ?_⟩
  refine wpAny_Call_Name_kw (ld_blt I hg hm hb ?_)
  refine PyProof.Rows.callWith_builtin1 ?_ he (by rfl)
  rw [he]
  show wpAny _ _ (spliced ((false, eval (.GeneratorExp elt gs scope gpos) X.env) :: backTo pos (starEach [] X.env))) _ _ s
  refine Calls.spliced_cons (G.run pins s σ H _ _ I (gx_in h) fun J H1 H2 u s5 hR hE hT I5 L => ?_)
  refine Calls.spliced_nil ?_
  obtain ⟨F1, ι1, W', hW', turn⟩ := gx_go (rel := fun st _ _ ys => st = true ∧ ∀ y ∈ ys, y = .bl true) G hR hE hT (fun _ _ _ _ _ _ _ r => r) fun _ _ => ⟨rfl, by simp⟩
  have t2 := turn (fun ys => ∃ p, cpB true ys p) fun st d st' b F ι ys y h1 h2 h3 h4 => by
    obtain ⟨p, _, h4⟩ := h4
    obtain ⟨rfl, rfl⟩ := tkAll_some h1
    simp only [VR] at h3
    have := h4 y (by simp)
    rw [h3] at this
    cases this
    exact ⟨rfl, rfl, h4⟩
  refine all_gx (Q := fun b H => Q (.bl b) H) hr I5 L ?_ hW' fun b H' s' I' hq => ⟨.bl b, H', I', rfl, hq⟩
  intro i m ys H hw
  rcases t2 i m ys H hw with ⟨a, F, ι, h, st, lf, hr', rl, p⟩ | ⟨a, Nx, b1, b2⟩
  · refine .inl ⟨a, ?_⟩
    obtain ⟨rfl, _⟩ := rl
    exact p F ι H (.bl true) lf hr' (by simp [VR])
  · refine .inr ⟨a, Nx, b1, fun x H' hy => ?_⟩
    exact tG_mono (b2 x H' hy) fun σ2 H2 ⟨c1, c2⟩ => ⟨c1, tM_mono c2 fun b H3 c3 => by
      cases b with
      | false => exact c3
      | true =>
        simp only [if_true] at c3 ⊢
        exact tM_mono c3 fun y H4 ⟨d1, ⟨F, ι, h, st, d, st', b, lf, hr', rl, rv, e, q⟩, d3⟩ => ⟨d1, by
          obtain ⟨rfl, e2⟩ := tkAll_some e
          simp only [VR] at rv
          exact ⟨st', rv, fun z => by
            subst z
            exact q e2 F ι H4 (.bl false) lf hr' (by simp [VR])⟩, d3⟩⟩

theorem em_tupG (hr : Room (k + 6) X.A) (hg : Gl X "tuple") (hm : X.mg "tuple" = none) (hb : bootBuiltins "tuple" = some (.type "tuple")) (t : TiOk g) (G : GxP X g W k (.GeneratorExp elt gs scope gpos) mi vs is mg mt me)
    (he : starEach [.GeneratorExp elt gs scope gpos] X.env = (false, eval (.GeneratorExp elt gs scope gpos) X.env) :: starEach [] X.env := by rfl) :
    PE X (.Call (.Name "tuple" p) [.GeneratorExp elt gs scope gpos] [] pos) (tE g W (mGx mi vs mg mt me tkCol [] fkT)) := by
  refine ⟨fun pins s σ H Q I h => ?_⟩
  refine wpAny_Call_Name_kw (ld_blt I hg hm hb ?_)
  refine PyProof.Rows.callWith_type1 ?_ he (by rfl)
  rw [he]
  show wpAny _ _ (spliced ((false, eval (.GeneratorExp elt gs scope gpos) X.env) :: backTo pos (starEach [] X.env))) _ _ s
  refine Calls.spliced_cons (G.run pins s σ H _ _ I (gx_in h) fun J H1 H2 u s5 hR hE hT I5 L => ?_)
  refine Calls.spliced_nil ?_
  obtain ⟨F1, ι1, W', hW', turn⟩ := gx_go (rel := fun st F ι ys => VRs g F ι st ys) G hR hE hT (fun _ _ _ _ _ _ l r => VRs.mono l _ _ r) fun _ _ => by simp [VRs]
  refine tuple_gx (fin := gFin g W F1 ι1 σ fkT (fun st F ι ys => VRs g F ι st ys) Q) hr I5 L (fun Ok => ?_) hW' fun ys p H' s' hl hp I' hq => ?_
  · have t2 := turn Ok fun st d st' b F ι ys y h1 h2 h3 _ => by
      cases h1
      exact ⟨rfl, h2.append (VRs.one h3)⟩
    intro i m ys H hw
    rcases t2 i m ys H hw with ⟨a, b⟩ | ⟨a, Nx, b1, b2⟩
    · exact .inl ⟨a, b⟩
    · refine .inr ⟨a, Nx, b1, fun x H' hy => ?_⟩
      exact tG_mono (b2 x H' hy) fun σ2 H2 ⟨c1, c2⟩ => ⟨c1, tM_mono c2 fun b H3 c3 => by
        cases b with
        | false => exact c3
        | true =>
          simp only [if_true] at c3 ⊢
          exact tM_mono c3 fun y H4 ⟨d1, _, d3⟩ => ⟨d1, trivial, d3⟩⟩
  · obtain ⟨F, ι, h, st, lf, hr', rl, q⟩ := hq
    exact ⟨.ref p, _, I', rfl, mkT_ok t hr' rl (q.le lf) p hp⟩
theorem em_sumG (hr : Room (k + 4) X.A) (hg : Gl X "sum") (hm : X.mg "sum" = none) (hb : bootBuiltins "sum" = some (.builtin "sum")) (G : GxP X g W k (.GeneratorExp elt gs scope gpos) mi vs is mg mt me)
    (he : starEach [.GeneratorExp elt gs scope gpos] X.env = (false, eval (.GeneratorExp elt gs scope gpos) X.env) :: starEach [] X.env := by rfl) :
    PE X (.Call (.Name "sum" p) [.GeneratorExp elt gs scope gpos] [] pos) (tE g W (mGx mi vs mg mt me tkSum 0 fkI)) := by
  refine ⟨fun pins s σ H Q I h => ?_⟩
  refine wpAny_Call_Name_kw (ld_blt I hg hm hb ?_)
  refine PyProof.Rows.callWith_builtin1 ?_ he (by rfl)
  rw [he]
  show wpAny _ _ (spliced ((false, eval (.GeneratorExp elt gs scope gpos) X.env) :: backTo pos (starEach [] X.env))) _ _ s
  refine Calls.spliced_cons (G.run pins s σ H _ _ I (gx_in h) fun J H1 H2 u s5 hR hE hT I5 L => ?_)
  refine Calls.spliced_nil ?_
  obtain ⟨F1, ι1, W', hW', turn⟩ := gx_go (rel := fun st F ι ys => ∃ ns : List Int, ys = ns.map V.int ∧ st = ns.sum) G hR hE hT (fun _ _ _ _ _ _ l r => r) fun _ _ => ⟨[], rfl, rfl⟩
  refine sum_gx (fin := gFin g W F1 ι1 σ fkI (fun st _ _ ys => ∃ ns : List Int, ys = ns.map V.int ∧ st = ns.sum) Q) hr I5 L (fun Ok => ?_) hW' fun ns t H' s' I' hq => ?_
  · have t2 := turn Ok fun st d st' b F ι ys y h1 h2 h3 _ => by
      obtain ⟨i, rfl, rfl, rfl⟩ := tkSum_some h1
      simp only [VR] at h3
      subst h3
      obtain ⟨ns, rfl, rfl⟩ := h2
      exact ⟨rfl, ns ++ [i], by simp, by simp⟩
    intro i m ys H hw
    rcases t2 i m ys H hw with ⟨a, b⟩ | ⟨a, Nx, b1, b2⟩
    · exact .inl ⟨a, b⟩
    · refine .inr ⟨a, Nx, b1, fun x H' hy => ?_⟩
      exact tG_mono (b2 x H' hy) fun σ2 H2 ⟨c1, c2⟩ => ⟨c1, tM_mono c2 fun b H3 c3 => by
        cases b with
        | false => exact c3
        | true =>
          simp only [if_true] at c3 ⊢
          exact tM_mono c3 fun y H4 ⟨d1, ⟨F, ι, h, st, d, st', b, lf, hr', rl, rv, e, q⟩, d3⟩ => ⟨d1, by
            obtain ⟨i, rfl, _, _⟩ := tkSum_some e
            simp only [VR] at rv
            exact ⟨i, rv⟩, d3⟩⟩
  · obtain ⟨F, ι, h, st, lf, hr', ⟨ns', e1, e2⟩, q⟩ := hq
    have e3 : ns = ns' := by
      have inj : ∀ (a b : List Int), a.map V.int = b.map V.int → a = b := fun a => by
        induction a with
        | nil => intro b z; cases b with | nil => rfl | cons => cases z
        | cons x a ih => intro b z; cases b with
          | nil => cases z
          | cons y b => injection z with z1 z2; injection z1 with z1; rw [z1, ih b z2]
      exact inj _ _ e1
    subst e3
    subst e2
    exact ⟨.int ns.sum, H', I', ⟨t, rfl⟩, q F ι H' (.int ns.sum) lf hr' (by simp [VR])⟩
end
end DV
end
section
set_option Elab.async false
set_option linter.all false
set_option maxRecDepth 100000
set_option maxHeartbeats 2000000
namespace DV
open PySem L2 PyProof.Rows PySem.Spec LamX

/-! ### defs by their bodies -/
def startA (n : Nat) (ds : List D) : AS := ds.map some ++ List.replicate (n - ds.length) none
def runF (n : Nat) (ms : MS) : FM := fun ds h => match ms (startA n ds) h with
  | .ok (.nx _) h' => .ok .non h'
  | .ok (.rt d) h' => .ok d h'
  | .ok _ _ => .stuck
  | .exc c _ h' => .exc c h'
  | .stuck => .stuck
theorem LR.start {g : G} {F : Kn} {ι : List Addr} {N : List Str} {ds : List D} {vs : List V} (r : VRs g F ι ds vs) : LR g F ι (startA N.length ds) (L2.start N vs) := by
  have hl := r.length
  refine ⟨by simp [startA, L2.start, hl], fun i d e => ?_⟩
  unfold startA at e
  by_cases hi : i < ds.length
  · rw [List.getElem?_append_left (by simpa using hi), List.getElem?_map] at e
    cases q : ds[i]? with
    | none => rw [q] at e; cases e
    | some x =>
      rw [q] at e
      cases e
      obtain ⟨v, z1, z2⟩ := r.get q
      refine ⟨v, ?_, z2⟩
      unfold L2.start
      rw [List.getElem?_append_left (by simp [hl]; exact hi), List.getElem?_map, z1]
      rfl
  · rw [List.getElem?_append_right (by simpa using hi)] at e
    have := List.mem_of_getElem? e
    simp at this
abbrev WF (E : XK) : WX := fun cls d _ H => E cls d H
/-- the def does what its body's plain form does -/
theorem fm_of {P : Program} {w : World} {K : PySem.W.Frag} {mg : Str → Option Value} {base : Heap} {x qual : Str} {params : Arguments} {body : List Stmt} {scope : Scope} {dvs : List V} {kws : List (Str × V)} {p : He.Defn} {fd : FuncData} {g : G} {N ps : List Str} {k : Nat} {ms : MS}
    (F : FunD K x qual params body scope dvs kws (He.fAd K p) fd) (S : FnScope N ps scope)
    (hbody : ∀ (cdv : Value) (A : Around) (outer : List Env) (s : Shared) (H : Hp) (E : XK), cdv = .ref (He.codeOf K p) → Room k (cxOf (L2.CX P w) P w K mg base N qual scope (He.fAd K p) cdv A outer s H E).A →
      Takes (cxOf (L2.CX P w) P w K mg base N qual scope (He.fAd K p) cdv A outer s H E) (WF E) → PassesOwn (model P w) (cxOf (L2.CX P w) P w K mg base N qual scope (He.fAd K p) cdv A outer s H E).A (cxOf (L2.CX P w) P w K mg base N qual scope (He.fAd K p) cdv A outer s H E).env (cxOf (L2.CX P w) P w K mg base N qual scope (He.fAd K p) cdv A outer s H E).xe →
      PSs (cxOf (L2.CX P w) P w K mg base N qual scope (He.fAd K p) cdv A outer s H E) body (tS g (WF E) ms)) :
    FnOk P w K mg base (L2.CX P w) (k + 1) (He.fAd K p) fd ps (spF g ps.length (runF N.length ms)) := by
  obtain ⟨oc, od, dV, kV, doc, pm, an, cdv, ct, osl, rfl, lk, hcd, _, _⟩ := F.ex
  obtain ⟨c, hc⟩ := He.codeIn_ref hcd
  have hco : He.codeOf K p = c := He.codeOf_eq lk hc
  refine fn_of lk hcd S (fun vs H Q E h => h.1) fun A outer s H vs Q E hr hsp => ?_
  refine ⟨_, hbody cdv A outer s H E (by rw [hco]; exact hc) hr (takes_of rfl rfl rfl rfl) (passes_of rfl), ?_⟩
  obtain ⟨hl, F0, ι, ds, h, hr0, rv, p0⟩ := hsp
  refine ⟨F0, ι, startA N.length ds, h, hr0, LR.start rv, ?_⟩
  revert p0
  unfold runF
  cases ms (startA N.length ds) h with
  | ok f h' =>
    cases f with
    | nx σ => exact fun p0 F' ι' H' l hr' σv lr => p0 F' ι' H' .non l hr' (by simp [VR])
    | rt d => exact fun p0 F' ι' H' l hr' v r => p0 F' ι' H' v l hr' r
    | bk σ => exact fun p0 => p0.elim
    | ct σ => exact fun p0 => p0.elim
  | exc c σ h' => exact fun p0 F' ι' H' σv l hr' _ => p0 F' ι' H' l hr'
  | stuck => exact fun p0 => p0
/-! ### the end -/
theorem walk_ofX {l : PySem.W.OpenLaw} {n k : Nat} {q : Program} {loose : List Str} {XP : (Str → Option Value) → Heap → Prop} {YP : World → Heap → Prop} {d : DefRec} {x : Str}
    (hn : l.most = some n) (hn2 : n ≤ sizeLine) (hdf : d.params.defaults = []) (hr : Room k callerA)
    (F : ∀ (w : World) (mg : Str → Option Value) (fa : Addr) (h : Heap), YP w h → h.Ns mainGlobals mg → mg d.name = some (.ref fa) → ∃ K : PySem.W.Frag, K.In h ∧ LawAtS l w K (L2.CX l.prog w) k n x mg fa h) :
    PySem.W.WalkO q loose XP YP l.row.toRowW d [] (fun f vs => PySem.call f vs) := by
  refine Att.attach_callB hn hdf fun w s₀ s₁ mg mb fa o pm cd doc a vs ns G Y ho hd hcd hmg hobj hints hlen hbits hg => ?_
  obtain ⟨K, KX, fd, cs, sp, hT, nT, C, hb, hsp, hF⟩ := F w mg fa _ Y G.T.g hmg
  exact law_callTs KX G.T.g G.T.b G.T.builtins G.T.nolimit hg hT nT C G.T.bmain hobj hints (Nat.le_trans hlen hn2) hr hF hb (fun H hH hS => hsp H a ns hlen hbits hH hS) fun H e s' z => by
    obtain ⟨_, _, _, _, _, _, _, _, _, _, _, _, z⟩ := z
    exact z
/-- the law's plain form answers True -/
def Plain (n : Nat) (Fm : FM) : Prop := ∀ ns : List Int, ns.length ≤ n → (∀ z ∈ ns, Builtin.Int.intBits z ≤ 1048576) → ∃ h', Fm [.scr ns] [] = .ok (.bl true) h'
theorem spF_law {g : G} {n : Nat} {Fm : FM} (pl : Plain n Fm) {H : Hp} {a : Addr} {ns : List Int} (hl : ns.length ≤ n) (hb : ∀ z ∈ ns, Builtin.Int.intBits z ≤ 1048576) (ht : g.Ti H) (hS : SqL g.K H a (ns.map V.int)) :
    spF g 1 Fm [.ref a] H (fun v _ => v = .bl true) fun _ _ _ => False := by
  obtain ⟨h', e⟩ := pl ns hl hb
  have key : ∃ F : Kn, HR g F [] [] H ∧ ScrAt g.K F a ns := by
    have emp : ∀ f : Addr → Option HO, (∀ b o, f b = some o → Std H b o) → HR g ⟨f, []⟩ [] [] H := fun f hf =>
      ⟨hf, fun n o z => (by simp at z), fun n m a z => (by simp at z), rfl, ht, fun q hq => (by simp at hq), fun q hq => (by simp at hq)⟩
    rcases hS with hS | hS
    · have : ∃ o, H a = some o ∧ (o = .lst (ns.map V.int) ∨ ∃ ob, o = .frz ob (.lst (ns.map V.int))) := by
        rcases hS with z | ⟨ob, z⟩
        · exact ⟨_, z, .inl rfl⟩
        · exact ⟨_, z, .inr ⟨ob, rfl⟩⟩
      obtain ⟨o, e1, e2⟩ := this
      refine ⟨⟨fun b => if b = a then some o else none, []⟩, emp _ fun b u z => ?_, .inl ⟨o, if_pos rfl, e2⟩⟩
      by_cases hb : b = a
      · rw [if_pos hb] at z
        cases z
        rw [hb]
        refine .inl ⟨e1, fun ps z => ?_⟩
        rcases e2 with e2 | ⟨ob, e2⟩ <;> rw [e2] at z <;> cases z
      · rw [if_neg hb] at z
        cases z
    · exact ⟨⟨fun _ => none, []⟩, emp _ fun b o z => (by cases z), .inr fun H' => .inr hS⟩
  obtain ⟨F, hr, hsc⟩ := key
  refine ⟨rfl, F, [], [.scr ns], [], hr, by simp only [VRs, VR]; exact ⟨.ref a, [], rfl, ⟨a, rfl, hsc⟩, rfl⟩, ?_⟩
  rw [e]
  intro F' ι' H' v _ _ rv
  simpa only [VR] using rv
end DV
end
section
set_option Elab.async false
set_option linter.all false
set_option maxRecDepth 100000
set_option maxHeartbeats 2000000
namespace DV
open PySem L2 PyProof.Rows PySem.Spec LamX

/-- nothing is said: for what is never reached -/
def mStuck : ME := fun _ _ => .stuck
def sStuck : MS := fun _ _ => .stuck
section
variable {X : Cx} {g : G} {W : WX} {st : Stmt} {e a b o i : Expr} {es : List Expr} {m ma mb mo mi : ME} {r : MA} {pos p tpos : Pos}
theorem em_stuck : PE X e (tE g W mStuck) := ⟨fun pins s σ H Q I h => by
  obtain ⟨F, ι, σ, h, hr, lr, p⟩ := h
  exact p.elim⟩
theorem sm_stuck : PS X st (tS g W sStuck) := ⟨fun pins s σ H Q I h => by
  obtain ⟨F, ι, σ, h, hr, lr, p⟩ := h
  exact p.elim⟩
/-! ### names -/
def visB (sc : Scope) (x : Str) : Bool := match sc.names.lookup x with | some .local => true | some .cell => true | some .free => true | _ => false
def locB (sc : Scope) (x : Str) : Bool := match sc.names.lookup x with | some .local => true | some .cell => true | _ => false
theorem vis_by {sc : Scope} {x : Str} (h : visB sc x = true) : Vis sc x := by
  unfold visB at h
  split at h <;> first | exact .inl (by assumption) | exact .inr (.inl (by assumption)) | exact .inr (.inr (by assumption)) | cases h
theorem loc_by {sc : Scope} {x : Str} (h : locB sc x = true) : Loc sc x := by
  unfold locB at h
  split at h <;> first | exact .inl (by assumption) | exact .inr (by assumption) | cases h
/-- a module's constant -/
theorem em_glob {x : Str} {v : V} {u : Value} {d : D} (hg : Gl X x) (hm : X.mg x = some u) (r : RelV v u) (hv : ∀ F ι, VR g F ι d v) (hd : (x == ("__debug__" : Str)) = false := by decide) : PE X (.Name x pos) (tE g W (mC d)) := em_c (pe_glob hg hm r hd) hv
/-! ### == of data at any depth -/
def allS {α : Type} : List (Option α) → Option (List α)
  | [] => some []
  | none :: _ => none
  | some x :: r => (allS r).map (x :: ·)
theorem allS_cons {α : Type} {x : Option α} {r : List (Option α)} {zs : List α} (h : allS (x :: r) = some zs) : ∃ y ys, x = some y ∧ allS r = some ys ∧ zs = y :: ys := by
  cases x with
  | none => cases h
  | some y =>
    unfold allS at h
    cases q : allS r with
    | none => rw [q] at h; cases h
    | some ys => rw [q] at h; cases h; exact ⟨y, ys, rfl, rfl, rfl⟩
def toP : Nat → AH → D → Option PyData
  | 0, _, _ => none
  | n + 1, h, d => match d with
    | .non => some .none
    | .bl b => some (.bool b)
    | .int i => some (.int i)
    | .str x => if PyData.strOk x = true then some (.str x) else none
    | .tup ds => (allS (ds.map (toP n h))).map .tuple
    | d => match getL h d with
      | some ds => (allS (ds.map (toP n h))).map .list
      | none => none
theorem toP_ok {F : Kn} {ι : List Addr} {h : AH} {H : Hp} (hr : HR g F ι h H) : ∀ (n : Nat) (d : D) (v : V) (q : PyData), toP n h d = some q → VR g F ι d v → Dp g.K H v q ∧ q.canLay0 = true ∧ q.depth ≤ n := by
  intro n
  induction n with
  | zero => intro d v q e; cases e
  | succ n ih =>
    have all : ∀ (ds : List D) (vs : List V) (qs : List PyData), allS (ds.map (toP n h)) = some qs → VRs g F ι ds vs → DpAll g.K H vs qs ∧ PyData.canLayAll0 qs = true ∧ PyData.depthAll qs ≤ n := by
      intro ds
      induction ds with
      | nil =>
        intro vs qs e r
        simp only [VRs] at r
        subst r
        cases e
        exact ⟨.nil, rfl, Nat.zero_le _⟩
      | cons d ds ih2 =>
        intro vs qs e r
        simp only [VRs] at r
        obtain ⟨v, ws, rfl, r1, r2⟩ := r
        obtain ⟨y, ys, e1, e2, rfl⟩ := allS_cons e
        obtain ⟨a1, a2, a3⟩ := ih d v y e1 r1
        obtain ⟨b1, b2, b3⟩ := ih2 ws ys e2 r2
        exact ⟨.cons a1 b1, by simp only [PyData.canLayAll0, a2, b2, Bool.and_self], by simp only [PyData.depthAll]; omega⟩
    have lst : ∀ (d : D) (v : V) (q : PyData), (match getL h d with | some ds => (allS (ds.map (toP n h))).map PyData.list | none => none) = some q → VR g F ι d v → Dp g.K H v q ∧ q.canLay0 = true ∧ q.depth ≤ n + 1 := by
      intro d v q e r
      split at e
      · rename_i ds e1
        cases e2 : allS (ds.map (toP n h)) with
        | none => rw [e2] at e; cases e
        | some qs =>
          rw [e2] at e
          cases e
          obtain ⟨a, vs, rfl, s1, s2⟩ := getL_ok hr e1 r
          obtain ⟨b1, b2, b3⟩ := all ds vs qs e2 s2
          exact ⟨.lst s1 b1, by simpa only [PyData.canLay0] using b2, by simp only [PyData.depth]; omega⟩
      · cases e
    intro d v q e r
    cases d with
    | non => cases e; cases r.non'; exact ⟨.non, rfl, by simp [PyData.depth]⟩
    | bl b => cases e; cases r.bl'; exact ⟨.bl b, rfl, by simp [PyData.depth]⟩
    | int i => cases e; cases r.int'; exact ⟨.int i, rfl, by simp [PyData.depth]⟩
    | str x =>
      cases r.str'
      have e : (if PyData.strOk x = true then some (PyData.str x) else none) = some q := e
      split at e
      · rename_i c
        cases e
        exact ⟨.str x, by simpa only [PyData.canLay0] using c, by simp [PyData.depth]⟩
      · cases e
    | tup ds =>
      have e : (allS (ds.map (toP n h))).map PyData.tuple = some q := e
      cases e2 : allS (ds.map (toP n h)) with
      | none => rw [e2] at e; cases e
      | some qs =>
        rw [e2] at e
        cases e
        obtain ⟨a, vs, rfl, s1, s2⟩ := tup_ok hr r
        obtain ⟨b1, b2, b3⟩ := all ds vs qs e2 s2
        exact ⟨.tup s1 b1, by simpa only [PyData.canLay0] using b2, by simp only [PyData.depth]; omega⟩
    | lst ds => exact lst (.lst ds) v q e r
    | dct ds => exact lst (.dct ds) v q e r
    | obj c ds => exact lst (.obj c ds) v q e r
    | ref k => exact lst (.ref k) v q e r
    | clo k => exact lst (.clo k) v q e r
    | scr ns => exact lst (.scr ns) v q e r
def dEqB (a b : D) (h : AH) : Option Bool := match toP 20 h a, toP 20 h b with
  | some x, some y => some (PyData.eqv x y)
  | _, _ => none
def dEq (a b : D) (h : AH) : Rv D := match dEqB a b h with | some k => .ok (.bl k) h | none => .stuck
def dNe (a b : D) (h : AH) : Rv D := match dEqB a b h with | some k => .ok (.bl (!k)) h | none => .stuck
theorem dEqB_ok {F : Kn} {ι : List Addr} {h : AH} {H : Hp} (hr : HR g F ι h H) {a b : D} {v u : V} {k : Bool} (e : dEqB a b h = some k) (ra : VR g F ι a v) (rb : VR g F ι b u) :
    ∃ x y, Dp g.K H v x ∧ Dp g.K H u y ∧ SeqAt.shaped x = true ∧ SeqAt.shaped y = true ∧ PyData.eqv x y = k := by
  unfold dEqB at e
  split at e
  · rename_i x y e1 e2
    cases e
    obtain ⟨a1, a2, a3⟩ := toP_ok hr 20 a v x e1 ra
    obtain ⟨b1, b2, b3⟩ := toP_ok hr 20 b u y e2 rb
    have sh : ∀ q : PyData, q.canLay0 = true → q.depth ≤ 20 → SeqAt.shaped q = true := fun q h1 h2 => by
      unfold SeqAt.shaped
      rw [h1, decide_eq_true (show q.depth ≤ 64 by omega)]
      rfl
    exact ⟨x, y, a1, b1, sh x a2 a3, sh y b2 b3, rfl⟩
  · cases e
theorem ok_eq : OpOk g (rEqD g.K) dEq := by
  intro W F ι h H σv a b v u Q hr ra rb p
  unfold dEq at p
  split at p
  · rename_i k e
    obtain ⟨x, y, h1, h2, h3, h4, h5⟩ := dEqB_ok hr e ra rb
    exact ⟨x, y, h1, h2, h3, h4, by rw [h5]; exact finb p hr⟩
  · exact p.elim
theorem ok_ne : OpOk g (rNeD g.K) dNe := by
  intro W F ι h H σv a b v u Q hr ra rb p
  unfold dNe at p
  split at p
  · rename_i k e
    obtain ⟨x, y, h1, h2, h3, h4, h5⟩ := dEqB_ok hr e ra rb
    exact ⟨x, y, h1, h2, h3, h4, by rw [h5]; exact finb p hr⟩
  · exact p.elim
theorem op_eqK (hK : X.K = g.K) (hu : X.A.units + 64 < cLine) : OpR X (compareOp .Eq) (rEqD g.K) := by rw [← hK]; exact op_eqD hu
theorem op_neK (hK : X.K = g.K) (hu : X.A.units + 64 < cLine) : OpR X (compareOp .NotEq) (rNeD g.K) := by rw [← hK]; exact op_neD hu
/-! ### in, not in a list -/
def dInB (a b : D) (h : AH) : Option Bool := match toP 20 h a, toP 20 h b with
  | some x, some (.list ys) => some (ys.any fun z => PyData.eqv z x)
  | _, _ => none
def dIn (a b : D) (h : AH) : Rv D := match dInB a b h with | some k => .ok (.bl k) h | none => .stuck
def dNotIn (a b : D) (h : AH) : Rv D := match dInB a b h with | some k => .ok (.bl (!k)) h | none => .stuck
theorem dInB_ok {F : Kn} {ι : List Addr} {h : AH} {H : Hp} (hr : HR g F ι h H) {a b : D} {v u : V} {k : Bool} (e : dInB a b h = some k) (ra : VR g F ι a v) (rb : VR g F ι b u) :
    ∃ x ys, Dp g.K H v x ∧ Dp g.K H u (.list ys) ∧ SeqAt.shaped x = true ∧ SeqAt.shaped (.list ys) = true ∧ (ys.any fun z => PyData.eqv z x) = k := by
  unfold dInB at e
  split at e
  · rename_i x ys e1 e2
    cases e
    obtain ⟨a1, a2, a3⟩ := toP_ok hr 20 a v x e1 ra
    obtain ⟨b1, b2, b3⟩ := toP_ok hr 20 b u _ e2 rb
    have sh : ∀ q : PyData, q.canLay0 = true → q.depth ≤ 20 → SeqAt.shaped q = true := fun q h1 h2 => by
      unfold SeqAt.shaped
      rw [h1, decide_eq_true (show q.depth ≤ 64 by omega)]
      rfl
    exact ⟨x, ys, a1, b1, sh x a2 a3, sh _ b2 b3, rfl⟩
  · cases e
theorem ok_in : OpOk g (rInD g.K) dIn := by
  intro W F ι h H σv a b v u Q hr ra rb p
  unfold dIn at p
  split at p
  · rename_i k e
    obtain ⟨x, y, h1, h2, h3, h4, h5⟩ := dInB_ok hr e ra rb
    exact ⟨x, y, h1, h2, h3, h4, by rw [h5]; exact finb p hr⟩
  · exact p.elim
theorem ok_notIn : OpOk g (rNotInD g.K) dNotIn := by
  intro W F ι h H σv a b v u Q hr ra rb p
  unfold dNotIn at p
  split at p
  · rename_i k e
    obtain ⟨x, y, h1, h2, h3, h4, h5⟩ := dInB_ok hr e ra rb
    exact ⟨x, y, h1, h2, h3, h4, by rw [h5]; exact finb p hr⟩
  · exact p.elim
theorem op_inK (hK : X.K = g.K) (hu : X.A.units + 65 < cLine) : OpR X (compareOp .In) (rInD g.K) := by rw [← hK]; exact op_inD hu
theorem op_notInK (hK : X.K = g.K) (hu : X.A.units + 65 < cLine) : OpR X (compareOp .NotIn) (rNotInD g.K) := by rw [← hK]; exact op_notInD hu
/-! ### builtins -/
def intsD : List D → Option (List Int)
  | [] => some []
  | .int i :: r => (intsD r).map (i :: ·)
  | _ :: _ => none
theorem intsD_eq : ∀ {ds : List D} {ns : List Int}, intsD ds = some ns → ds = ns.map D.int
  | [], ns, e => by cases e; rfl
  | .int i :: r, ns, e => by
    unfold intsD at e
    cases q : intsD r with
    | none => rw [q] at e; cases e
    | some l => rw [q] at e; cases e; rw [intsD_eq q]; rfl
theorem VRs.ints' {F : Kn} {ι : List Addr} : ∀ {ns : List Int} {vs : List V}, VRs g F ι (ns.map D.int) vs → vs = ns.map V.int
  | [], vs, r => by simpa only [List.map_nil, VRs] using r
  | n :: ns, vs, r => by
    simp only [List.map_cons, VRs, VR] at r
    obtain ⟨v, ws, rfl, rfl, r⟩ := r
    rw [VRs.ints' r]
    rfl
theorem one1 {F : Kn} {ι : List Addr} {d : D} {vs : List V} (r : VRs g F ι [d] vs) : ∃ v, vs = [v] ∧ VR g F ι d v := by
  simp only [VRs] at r
  obtain ⟨v, ws, rfl, h1, rfl⟩ := r
  exact ⟨v, rfl, h1⟩
theorem two2 {F : Kn} {ι : List Addr} {d e : D} {vs : List V} (r : VRs g F ι [d, e] vs) : ∃ v u, vs = [v, u] ∧ VR g F ι d v ∧ VR g F ι e u := by
  simp only [VRs] at r
  obtain ⟨v, ws, rfl, h1, u, us, rfl, h2, rfl⟩ := r
  exact ⟨v, u, rfl, h1, h2⟩
def bLen (ds : List D) (h : AH) : Rv D := match ds with
  | [.str y] => okIf (y.length ≤ sizeLine) (.ok (.int y.length) h)
  | [d] => match getS h d with | some xs => .ok (.int xs.length) h | none => .stuck
  | _ => .stuck
theorem k_len : CallOk g (fun xs H Q => ∃ x n, xs = [x] ∧ LenV g.K x H n ∧ Q (.int n) H) bLen := by
  intro W F ι h H σv ds vs Q hr rv p
  unfold bLen at p
  split at p
  · obtain ⟨v, rfl, r⟩ := one1 rv
    cases r.str'
    obtain ⟨hz, p⟩ := okIf_post p
    exact ⟨_, _, rfl, ⟨hz, rfl⟩, fini p hr⟩
  · obtain ⟨v, rfl, r⟩ := one1 rv
    split at p
    · rename_i xs e
      obtain ⟨a, ws, rfl, q1, q2⟩ := getS_ok hr e r
      refine ⟨_, xs.length, rfl, ?_, fini p hr⟩
      rcases q1 with q1 | q1
      · exact .inl ⟨ws, q1, by rw [q2.length]⟩
      · exact .inr ⟨ws, q1, by rw [q2.length]⟩
    · exact p.elim
  · exact p.elim
theorem c_len (hK : X.K = g.K) : CallR X (.builtin "len") (fun xs H Q => ∃ x n, xs = [x] ∧ LenV g.K x H n ∧ Q (.int n) H) := by rw [← hK]; exact call_len
def bAbs (ds : List D) (h : AH) : Rv D := match ds with
  | [.int i] => .ok (.int (if i < 0 then -i else i)) h
  | _ => .stuck
theorem k_abs : CallOk g (fun xs H Q => ∃ i, xs = [.int i] ∧ Q (.int (if i < 0 then -i else i)) H) bAbs := by
  intro W F ι h H σv ds vs Q hr rv p
  unfold bAbs at p
  split at p
  · obtain ⟨v, rfl, r⟩ := one1 rv
    cases r.int'
    exact ⟨_, rfl, fini p hr⟩
  · exact p.elim
def bInt (ds : List D) (h : AH) : Rv D := match ds with
  | [.int i] => .ok (.int i) h
  | [.bl b] => .ok (.int (if b then 1 else 0)) h
  | _ => .stuck
theorem k_int : CallOk g (fun xs H Q => (∃ i, xs = [.int i] ∧ Q (.int i) H) ∨ ∃ k, xs = [.bl k] ∧ Q (.int (if k then 1 else 0)) H) bInt := by
  intro W F ι h H σv ds vs Q hr rv p
  unfold bInt at p
  split at p
  · obtain ⟨v, rfl, r⟩ := one1 rv
    cases r.int'
    exact .inl ⟨_, rfl, fini p hr⟩
  · obtain ⟨v, rfl, r⟩ := one1 rv
    cases r.bl'
    exact .inr ⟨_, rfl, fini p hr⟩
  · exact p.elim
def bMax2 (ds : List D) (h : AH) : Rv D := match ds with
  | [.int i, .int j] => .ok (.int (if j > i then j else i)) h
  | _ => .stuck
def bMin2 (ds : List D) (h : AH) : Rv D := match ds with
  | [.int i, .int j] => .ok (.int (if j < i then j else i)) h
  | _ => .stuck
theorem k_max2 : CallOk g (fun xs H Q => ∃ i j, xs = [.int i, .int j] ∧ Q (.int (if j > i then j else i)) H) bMax2 := by
  intro W F ι h H σv ds vs Q hr rv p
  unfold bMax2 at p
  split at p
  · obtain ⟨v, u, rfl, r1, r2⟩ := two2 rv
    cases r1.int'; cases r2.int'
    exact ⟨_, _, rfl, fini p hr⟩
  · exact p.elim
theorem k_min2 : CallOk g (fun xs H Q => ∃ i j, xs = [.int i, .int j] ∧ Q (.int (if j < i then j else i)) H) bMin2 := by
  intro W F ι h H σv ds vs Q hr rv p
  unfold bMin2 at p
  split at p
  · obtain ⟨v, u, rfl, r1, r2⟩ := two2 rv
    cases r1.int'; cases r2.int'
    exact ⟨_, _, rfl, fini p hr⟩
  · exact p.elim
/-! sum, min, max of a tuple of ints, too -/
section
open PySem.W
variable {prog : Program} {w : World} {A : Around} {E : Value → Shared → Prop} {s : Shared} {l : Addr} {its : List Value} {ns : List Int} {Q : Value → Shared → Prop} {xs : Array (Int × Tok)}
theorem iter_intTup (hl : s.heap.IsTuple l (intItems xs))
    (h : ∀ s₂ : Shared, s₂ = { s with heap := s.heap.push { cls := .type "tuple_iterator", data := .fields #[.ref l, .int 0 0] } } →
      (s₂.heap.IsTupleIter s.heap.objs.size l 0 ∧ s₂.heap.IsTuple l (intItems xs)) → (∀ b ∈ [s.heap.objs.size, l], b < s₂.heap.objs.size) → l ≠ s.heap.objs.size → Q (.ref s.heap.objs.size) s₂) :
    wpAny (model prog w) A (pyIter (.ref l)) Q E s := by
  have hlt : l < s.heap.objs.size := by obtain ⟨_, e, _⟩ := hl; exact Heap.lt_size e
  refine wpAny_pyIter_tuple hl (h _ rfl ⟨⟨_, Heap.get?_push_size _ rfl, rfl, rfl⟩, hl.push _⟩ (fun b hb => ?_) (Nat.ne_of_lt hlt))
  show b < (s.heap.push _).objs.size
  rw [Heap.size_push]
  rcases List.mem_cons.mp hb with rfl | hb
  · exact Nat.lt_succ_self _
  · rcases List.mem_cons.mp hb with rfl | hb
    · exact Nat.lt_succ_of_lt hlt
    · cases hb
theorem old_keptT {h' : Heap} (hk : ∀ b o, b ∉ [s.heap.objs.size] → (s.heap.push { cls := .type "tuple_iterator", data := .fields #[.ref l, .int 0 0] }).get? b = some o → h'.get? b = some o) :
    ∀ b o, s.heap.get? b = some o → h'.get? b = some o := fun b o e => by
  refine hk b o (fun hm => ?_) (Heap.get?_push_of_some _ e)
  rcases List.mem_cons.mp hm with e1 | hm
  · exact absurd (e1 ▸ Heap.lt_size e) (Nat.lt_irrefl _)
  · cases hm
theorem sum_tupR (hh : A.handled = none) (hl : s.heap.IsTuple l its.toArray) (hi : IntsAre its ns)
    (h : ∀ h' tk t', (∀ b o, s.heap.get? b = some o → h'.get? b = some o) → Q (.int ns.sum t') { s with heap := h', toks := tk }) : wpAny (model prog w) A (call (.builtin "sum") [.ref l]) Q E s := by
  obtain ⟨xs, e⟩ := hi.allInts.items
  have hn : numsOf (intItems xs).toList = ns := by rw [← e]; exact hi.numsOf
  rw [nums_intItems] at hn
  rw [e] at hl
  refine call_sum_walkG (iter_intTup hl fun s₂ e st hfp hlI => ?_)
  subst e
  refine ⟨_, _, _, _, _, _, numAt xs, rfl, Walks.tuple (A := A.in1) hh _ l hlI (intItems xs), st, hfp, (fun _ _ => intItems_at), fun h' tk t' hk => ?_⟩
  have := h h' tk t' (old_keptT hk)
  rw [preSum_eq, List.take_of_length_le (by simp [intItems]), hn]
  exact this
theorem max_tupR (hh : A.handled = none) (hl : s.heap.IsTuple l its.toArray) (hi : IntsAre its ns) (hne : 0 < ns.length)
    (h : ∀ h' tk M t', (∀ b o, s.heap.get? b = some o → h'.get? b = some o) → M ∈ ns → (∀ a, a ∈ ns → a ≤ M) → Q (.int M t') { s with heap := h', toks := tk }) : wpAny (model prog w) A (call (.builtin "max") [.ref l]) Q E s := by
  obtain ⟨xs, e⟩ := hi.allInts.items
  have hn : numsOf (intItems xs).toList = ns := by rw [← e]; exact hi.numsOf
  rw [nums_intItems] at hn
  subst hn
  rw [e] at hl
  have hsz : 0 < xs.size := by simpa using hne
  refine call_max_walk (iter_intTup hl fun s₂ e st hfp hlI => ?_)
  subst e
  refine ⟨_, _, _, _, _, _, _, rfl, Walks.tuple (A := A.in1) hh _ l hlI (intItems xs), st, hfp, by simpa [intItems] using hsz, CmpOf.ints_gt (numAt xs) (fun _ _ => intItems_at), fun v h' tk hP hk => ?_⟩
  have hv : (intItems xs)[argBest (fun i j => decide (numAt xs i > numAt xs j)) (xs.size - 1)]? = some v := by simpa [intItems] using hP
  obtain ⟨t, rfl⟩ := intItems_at hv
  obtain ⟨h1, h2⟩ := argBest_gt (numAt xs) (xs.size - 1)
  refine h h' tk _ t (old_keptT hk) ?_ fun a ha => ?_
  · rw [numAt_eq]; exact PySem.getD_mem (by rw [List.length_map, Array.length_toList]; omega)
  · obtain ⟨j, hj, rfl⟩ := mem_getD ha
    rw [List.length_map, Array.length_toList] at hj
    rw [← numAt_eq]; exact h2 j (by omega)
theorem min_tupR (hh : A.handled = none) (hl : s.heap.IsTuple l its.toArray) (hi : IntsAre its ns) (hne : 0 < ns.length)
    (h : ∀ h' tk M t', (∀ b o, s.heap.get? b = some o → h'.get? b = some o) → M ∈ ns → (∀ a, a ∈ ns → M ≤ a) → Q (.int M t') { s with heap := h', toks := tk }) : wpAny (model prog w) A (call (.builtin "min") [.ref l]) Q E s := by
  obtain ⟨xs, e⟩ := hi.allInts.items
  have hn : numsOf (intItems xs).toList = ns := by rw [← e]; exact hi.numsOf
  rw [nums_intItems] at hn
  subst hn
  rw [e] at hl
  have hsz : 0 < xs.size := by simpa using hne
  refine call_min_walk (iter_intTup hl fun s₂ e st hfp hlI => ?_)
  subst e
  refine ⟨_, _, _, _, _, _, _, rfl, Walks.tuple (A := A.in1) hh _ l hlI (intItems xs), st, hfp, by simpa [intItems] using hsz, CmpOf.ints_lt (numAt xs) (fun _ _ => intItems_at), fun v h' tk hP hk => ?_⟩
  have hv : (intItems xs)[argBest (fun i j => decide (numAt xs i < numAt xs j)) (xs.size - 1)]? = some v := by simpa [intItems] using hP
  obtain ⟨t, rfl⟩ := intItems_at hv
  obtain ⟨h1, h2⟩ := argBest_lt (numAt xs) (xs.size - 1)
  refine h h' tk _ t (old_keptT hk) ?_ fun a ha => ?_
  · rw [numAt_eq]; exact PySem.getD_mem (by rw [List.length_map, Array.length_toList]; omega)
  · obtain ⟨j, hj, rfl⟩ := mem_getD ha
    rw [List.length_map, Array.length_toList] at hj
    rw [← numAt_eq]; exact h2 j (by omega)
end
def SqE (K : PySem.W.Frag) (H : Hp) (a : Addr) (xs : List V) : Prop := SqL K H a xs ∨ SqT K H a xs
def rSumE (K : PySem.W.Frag) : List V → Hp → VK → Prop := fun vs H Q => ∃ (a : Addr) (ns : List Int), vs = [V.ref a] ∧ SqE K H a (ns.map V.int) ∧ Q (.int ns.sum) H
def rMaxE (K : PySem.W.Frag) : List V → Hp → VK → Prop := fun vs H Q => ∃ (a : Addr) (ns : List Int), vs = [V.ref a] ∧ SqE K H a (ns.map V.int) ∧ 0 < ns.length ∧ ∀ m, m ∈ ns → (∀ y, y ∈ ns → y ≤ m) → Q (.int m) H
def rMinE (K : PySem.W.Frag) : List V → Hp → VK → Prop := fun vs H Q => ∃ (a : Addr) (ns : List Int), vs = [V.ref a] ∧ SqE K H a (ns.map V.int) ∧ 0 < ns.length ∧ ∀ m, m ∈ ns → (∀ y, y ∈ ns → m ≤ y) → Q (.int m) H
theorem cr_sumE {X : Cx} (hc : X.calm = true) : CallR X (.builtin "sum") (rSumE X.K) := by
  intro pins s σ H vs us Q I r h
  obtain ⟨a, ns, rfl, hs, q⟩ := h
  rcases hs with hs | hs
  · exact cr_sum hc pins s σ H _ us Q I r ⟨a, ns, rfl, hs, q⟩
  · obtain ⟨its, rv, hl, _⟩ := I.tuple hs
    rw [Vals.ref1 r]
    exact sum_tupR (I.ok.hd hc) hl rv.ints fun h' tk t' hk => ⟨.int _, H, I.kept hk, ⟨_, rfl⟩, q⟩
theorem cr_maxE {X : Cx} (hc : X.calm = true) : CallR X (.builtin "max") (rMaxE X.K) := by
  intro pins s σ H vs us Q I r h
  obtain ⟨a, ns, rfl, hs, hne, q⟩ := h
  rcases hs with hs | hs
  · exact cr_max hc pins s σ H _ us Q I r ⟨a, ns, rfl, hs, hne, q⟩
  · obtain ⟨its, rv, hl, _⟩ := I.tuple hs
    rw [Vals.ref1 r]
    exact max_tupR (I.ok.hd hc) hl rv.ints hne fun h' tk m t' hk h1 h2 => ⟨.int _, H, I.kept hk, ⟨_, rfl⟩, q m h1 h2⟩
theorem cr_minE {X : Cx} (hc : X.calm = true) : CallR X (.builtin "min") (rMinE X.K) := by
  intro pins s σ H vs us Q I r h
  obtain ⟨a, ns, rfl, hs, hne, q⟩ := h
  rcases hs with hs | hs
  · exact cr_min hc pins s σ H _ us Q I r ⟨a, ns, rfl, hs, hne, q⟩
  · obtain ⟨its, rv, hl, _⟩ := I.tuple hs
    rw [Vals.ref1 r]
    exact min_tupR (I.ok.hd hc) hl rv.ints hne fun h' tk m t' hk h1 h2 => ⟨.int _, H, I.kept hk, ⟨_, rfl⟩, q m h1 h2⟩
def bSum (ds : List D) (h : AH) : Rv D := match ds with
  | [d] => match (getS h d).bind intsD with | some ns => .ok (.int ns.sum) h | none => .stuck
  | _ => .stuck
theorem intsL {F : Kn} {ι : List Addr} {h : AH} {H : Hp} (hr : HR g F ι h H) {d : D} {v : V} {ns : List Int} (e : (getS h d).bind intsD = some ns) (rv : VR g F ι d v) : ∃ a, v = .ref a ∧ SqE g.K H a (ns.map V.int) := by
  cases q : getS h d with
  | none => rw [q] at e; cases e
  | some xs =>
    rw [q] at e
    have e : intsD xs = some ns := e
    obtain ⟨a, ws, rfl, q1, q2⟩ := getS_ok hr q rv
    rw [intsD_eq e] at q2
    rw [VRs.ints' q2] at q1
    exact ⟨a, rfl, q1⟩
theorem k_sum : CallOk g (rSumE g.K) bSum := by
  intro W F ι h H σv ds vs Q hr rv p
  unfold bSum at p
  split at p
  · obtain ⟨v, rfl, r⟩ := one1 rv
    split at p
    · rename_i ns e
      obtain ⟨a, rfl, q⟩ := intsL hr e r
      exact ⟨a, ns, rfl, q, fini p hr⟩
    · exact p.elim
  · exact p.elim
theorem c_sum (hK : X.K = g.K) (hc : X.calm = true) : CallR X (.builtin "sum") (rSumE g.K) := by rw [← hK]; exact cr_sumE hc
def leastI : Int → List Int → Int
  | m, [] => m
  | m, n :: r => leastI (if n < m then n else m) r
theorem leastI_le : ∀ (l : List Int) (m : Int), leastI m l ≤ m ∧ ∀ y ∈ l, leastI m l ≤ y
  | [], m => ⟨Int.le_refl _, by simp⟩
  | n :: r, m => by
    obtain ⟨h1, h2⟩ := leastI_le r (if n < m then n else m)
    unfold leastI
    have e : (if n < m then n else m) ≤ m ∧ (if n < m then n else m) ≤ n := by split <;> omega
    refine ⟨Int.le_trans h1 e.1, fun y hy => ?_⟩
    rcases List.mem_cons.mp hy with rfl | hy
    · exact Int.le_trans h1 e.2
    · exact h2 y hy
theorem leastI_mem : ∀ (l : List Int) (m : Int), leastI m l ∈ m :: l
  | [], m => by simp [leastI]
  | n :: r, m => by
    have h := leastI_mem r (if n < m then n else m)
    unfold leastI
    rcases List.mem_cons.mp h with h | h
    · rw [h]
      split <;> simp
    · exact List.mem_cons_of_mem _ (List.mem_cons_of_mem _ h)
def mostI : Int → List Int → Int
  | m, [] => m
  | m, n :: r => mostI (if n > m then n else m) r
theorem mostI_le : ∀ (l : List Int) (m : Int), m ≤ mostI m l ∧ ∀ y ∈ l, y ≤ mostI m l
  | [], m => ⟨Int.le_refl _, by simp⟩
  | n :: r, m => by
    obtain ⟨h1, h2⟩ := mostI_le r (if n > m then n else m)
    unfold mostI
    have e : m ≤ (if n > m then n else m) ∧ n ≤ (if n > m then n else m) := by split <;> omega
    refine ⟨Int.le_trans e.1 h1, fun y hy => ?_⟩
    rcases List.mem_cons.mp hy with rfl | hy
    · exact Int.le_trans e.2 h1
    · exact h2 y hy
theorem mostI_mem : ∀ (l : List Int) (m : Int), mostI m l ∈ m :: l
  | [], m => by simp [mostI]
  | n :: r, m => by
    have h := mostI_mem r (if n > m then n else m)
    unfold mostI
    rcases List.mem_cons.mp h with h | h
    · rw [h]
      split <;> simp
    · exact List.mem_cons_of_mem _ (List.mem_cons_of_mem _ h)
def bMin (ds : List D) (h : AH) : Rv D := match ds with
  | [d] => match (getS h d).bind intsD with | some (n :: ns) => .ok (.int (leastI n ns)) h | _ => .stuck
  | _ => .stuck
def bMax (ds : List D) (h : AH) : Rv D := match ds with
  | [d] => match (getS h d).bind intsD with | some (n :: ns) => .ok (.int (mostI n ns)) h | _ => .stuck
  | _ => .stuck
theorem k_min : CallOk g (rMinE g.K) bMin := by
  intro W F ι h H σv ds vs Q hr rv p
  unfold bMin at p
  split at p
  · obtain ⟨v, rfl, r⟩ := one1 rv
    split at p
    · rename_i n ns e
      obtain ⟨a, rfl, q⟩ := intsL hr e r
      refine ⟨a, n :: ns, rfl, q, by simp, fun m hm hle => ?_⟩
      have e2 : m = leastI n ns := by
        have h1 := leastI_le ns n
        have h2 := hle _ (leastI_mem ns n)
        rcases List.mem_cons.mp hm with h3 | h3
        · have := h1.1; omega
        · have := h1.2 m h3; omega
      rw [e2]
      exact fini p hr
    · exact p.elim
  · exact p.elim
theorem k_max : CallOk g (rMaxE g.K) bMax := by
  intro W F ι h H σv ds vs Q hr rv p
  unfold bMax at p
  split at p
  · obtain ⟨v, rfl, r⟩ := one1 rv
    split at p
    · rename_i n ns e
      obtain ⟨a, rfl, q⟩ := intsL hr e r
      refine ⟨a, n :: ns, rfl, q, by simp, fun m hm hle => ?_⟩
      have e2 : m = mostI n ns := by
        have h1 := mostI_le ns n
        have h2 := hle _ (mostI_mem ns n)
        rcases List.mem_cons.mp hm with h3 | h3
        · have := h1.1; omega
        · have := h1.2 m h3; omega
      rw [e2]
      exact fini p hr
    · exact p.elim
  · exact p.elim
theorem c_min (hK : X.K = g.K) (hc : X.calm = true) : CallR X (.builtin "min") (rMinE g.K) := by rw [← hK]; exact cr_minE hc
theorem c_max (hK : X.K = g.K) (hc : X.calm = true) : CallR X (.builtin "max") (rMaxE g.K) := by rw [← hK]; exact cr_maxE hc
def bList (mu : Bool) (ds : List D) (h : AH) : Rv D := match ds with
  | [d] => match getS h d with | some xs => mkL mu xs h | none => .stuck
  | _ => .stuck
theorem k_list (t : TiOk g) (mu : Bool) : CallOk g (fun xs H Q => ∃ p ys, xs = [.ref p] ∧ (SqL g.K H p ys ∨ SqT g.K H p ys) ∧ ∀ l, H l = none → Q (.ref l) (upd H l (.lst ys))) (bList mu) := by
  intro W F ι h H σv ds vs Q hr rv p
  unfold bList at p
  split at p
  · obtain ⟨v, rfl, r⟩ := one1 rv
    split at p
    · rename_i xs e
      obtain ⟨a, ws, rfl, q1, q2⟩ := getS_ok hr e r
      exact ⟨a, ws, rfl, q1, mkL_ok t hr q2 p⟩
    · exact p.elim
  · exact p.elim
theorem c_list (hK : X.K = g.K) : CallR X (.type "list") (fun xs H Q => ∃ p ys, xs = [.ref p] ∧ (SqL g.K H p ys ∨ SqT g.K H p ys) ∧ ∀ l, H l = none → Q (.ref l) (upd H l (.lst ys))) := by rw [← hK]; exact call_list_of
def bTuple (ds : List D) (h : AH) : Rv D := match ds with
  | [.tup xs] => .ok (.tup xs) h
  | [d] => match getL h d with | some xs => .ok (.tup xs) h | none => .stuck
  | _ => .stuck
theorem k_tuple (t : TiOk g) : CallOk g (fun xs H Q => ∃ p ys, xs = [.ref p] ∧ ((SqL g.K H p ys ∧ ∀ l, H l = none → Q (.ref l) (upd H l (.tup ys))) ∨ (SqT g.K H p ys ∧ Q (.ref p) H))) bTuple := by
  intro W F ι h H σv ds vs Q hr rv p
  unfold bTuple at p
  split at p
  · obtain ⟨v, rfl, r⟩ := one1 rv
    obtain ⟨a, ws, rfl, q1, q2⟩ := tup_ok hr r
    exact ⟨a, ws, rfl, .inr ⟨q1, p F ι H _ .refl hr r⟩⟩
  · obtain ⟨v, rfl, r⟩ := one1 rv
    split at p
    · rename_i xs e
      obtain ⟨a, ws, rfl, q1, q2⟩ := getL_ok hr e r
      exact ⟨a, ws, rfl, .inl ⟨q1, mkT_ok t hr q2 p⟩⟩
    · exact p.elim
  · exact p.elim
theorem c_tuple (hK : X.K = g.K) : CallR X (.type "tuple") (fun xs H Q => ∃ p ys, xs = [.ref p] ∧ ((SqL g.K H p ys ∧ ∀ l, H l = none → Q (.ref l) (upd H l (.tup ys))) ∨ (SqT g.K H p ys ∧ Q (.ref p) H))) := by rw [← hK]; exact call_tuple_of
end
end DV
end
section
set_option Elab.async false
set_option linter.all false
set_option maxRecDepth 100000
set_option maxHeartbeats 2000000
namespace DV
open PySem L2 PyProof.Rows PySem.Spec LamX SrtO

/-! ### sorting by putting in -/
section
variable {α β : Type}
def insB (lt : α → α → Bool) (x : α) : List α → List α
  | [] => [x]
  | y :: r => if lt y x = true then y :: insB lt x r else x :: y :: r
def isortB (lt : α → α → Bool) : List α → List α
  | [] => []
  | x :: r => insB lt x (isortB lt r)
variable {lt : α → α → Bool}
theorem insB_perm (x : α) : ∀ l : List α, (insB lt x l).Perm (x :: l)
  | [] => .refl _
  | y :: r => by
    unfold insB
    split
    · exact ((insB_perm x r).cons y).trans (List.Perm.swap x y r)
    · exact .refl _
theorem isortB_perm : ∀ l : List α, (isortB lt l).Perm l
  | [] => .refl _
  | x :: r => (insB_perm x _).trans ((isortB_perm r).cons x)
theorem insB_srtd (O : Swo lt) (x : α) : ∀ l : List α, Srtd lt l → Srtd lt (insB lt x l)
  | [], _ => srtd_one x
  | y :: r, h => by
    unfold insB
    by_cases e : lt y x = true
    · rw [if_pos e]
      refine List.pairwise_cons.mpr ⟨fun z hz => ?_, insB_srtd O x r (List.pairwise_cons.mp h).2⟩
      rcases List.mem_cons.mp ((insB_perm x r).mem_iff.mp hz) with rfl | hz
      · exact O.asym _ _ e
      · exact srtd_head h z hz
    · rw [if_neg e]
      have e' : lt y x = false := by simpa using e
      exact List.pairwise_cons.mpr ⟨O.le_all h e', h⟩
theorem isortB_srtd (O : Swo lt) : ∀ l : List α, Srtd lt (isortB lt l)
  | [] => List.Pairwise.nil
  | x :: r => insB_srtd O x _ (isortB_srtd O r)
theorem insB_cls (O : Swo lt) (x z : α) : ∀ l : List α, (insB lt x l).filter (eqv lt z) = (x :: l).filter (eqv lt z)
  | [] => rfl
  | y :: r => by
    unfold insB
    by_cases e : lt y x = true
    · rw [if_pos e]
      have ih := insB_cls O x z r
      have no : ¬ (eqv lt z x = true ∧ eqv lt z y = true) := by
        rintro ⟨h1, h2⟩
        obtain ⟨a1, a2⟩ := eqv_iff.mp h1
        obtain ⟨b1, b2⟩ := eqv_iff.mp h2
        have c := O.tr x z y a1 b2
        rw [e] at c
        cases c
      simp only [List.filter_cons] at ih ⊢
      by_cases hx : eqv lt z x = true
      · have hy : ¬ eqv lt z y = true := fun hy => no ⟨hx, hy⟩
        rw [if_pos hx] at ih
        rw [if_neg hy, if_pos hx, if_neg hy, ih]
      · rw [if_neg hx] at ih
        by_cases hy : eqv lt z y = true
        · rw [if_pos hy, if_neg hx, if_pos hy, ih]
        · rw [if_neg hy, if_neg hx, if_neg hy, ih]
    · rw [if_neg e]
theorem isortB_stb (O : Swo lt) : ∀ l : List α, Stb lt (isortB lt l) l
  | [] => Stb.refl _
  | x :: r => by
    have ih := isortB_stb O r
    refine ⟨isortB_perm _, fun z => ?_⟩
    show (insB lt x (isortB lt r)).filter (eqv lt z) = _
    rw [insB_cls O]
    simp only [List.filter_cons, ih.cls z]
theorem isortB_uniq (O : Swo lt) {out l : List α} (h1 : Srtd lt out) (h2 : Stb lt out l) : out = isortB lt l := by
  have h3 := isortB_stb O l
  exact stb_uniq O h1 (isortB_srtd O l) ⟨h2.perm.trans h3.perm.symm, fun x => (h2.cls x).trans (h3.cls x).symm⟩
theorem insB_map {lt' : β → β → Bool} {f : α → β} (x : α) : ∀ l : List α, (∀ y ∈ l, lt' (f y) (f x) = lt y x) → insB lt' (f x) (l.map f) = (insB lt x l).map f
  | [], _ => rfl
  | y :: r, h => by
    simp only [List.map_cons]
    unfold insB
    rw [h y List.mem_cons_self]
    split
    · rw [insB_map x r fun z hz => h z (List.mem_cons_of_mem _ hz)]; rfl
    · rfl
theorem isortB_map {lt' : β → β → Bool} {f : α → β} : ∀ l : List α, (∀ x ∈ l, ∀ y ∈ l, lt' (f y) (f x) = lt y x) → isortB lt' (l.map f) = (isortB lt l).map f
  | [], _ => rfl
  | x :: r, h => by
    show insB lt' (f x) (isortB lt' (r.map f)) = _
    rw [isortB_map r fun a ha b hb => h a (List.mem_cons_of_mem _ ha) b (List.mem_cons_of_mem _ hb)]
    exact insB_map x _ fun y hy => h x List.mem_cons_self y (List.mem_cons_of_mem _ ((isortB_perm r).mem_iff.mp hy))
end
def ltI (i j : Int) : Bool := decide (i < j)
abbrev PQ : Type := Addr × Int × Int
def ltQ (p q : PQ) : Bool := lexB p.2 q.2
def pQ (q : PQ) : V := .ref q.1
/-- xs sorted: zs -/
def SrtV (K : PySem.W.Frag) (H : Hp) (xs zs : List V) : Prop :=
  (∃ ns : List Int, xs = ns.map V.int ∧ zs = (isortB ltI ns).map V.int) ∨
  ∃ ps : List PQ, xs = ps.map pQ ∧ (∀ q ∈ ps, SqT K H q.1 [.int q.2.1, .int q.2.2]) ∧ zs = (isortB ltQ ps).map pQ
/-- the two ints of a pair, off the heap -/
def kOf (h : Heap) (v : Value) : Int × Int := match v with
  | .ref a => match h.get? a with
    | some o => match o.data with
      | .seq its _ => match its.toList with
        | [.int i _, .int j _] => (i, j)
        | _ => (0, 0)
      | _ => (0, 0)
    | none => (0, 0)
  | _ => (0, 0)
theorem kOf_pair {h : Heap} {v : Value} {i j : Int} (p : Srt.IsPair h v i j) : kOf h v = (i, j) := by
  obtain ⟨t, o, t1, t2, n, rfl, ho, hc, hd⟩ := p
  unfold kOf
  simp only [ho, hd]
section
variable {X : Cx} {pins : List (Addr × Obj)} {σ : L2.St} {H : Hp} {s : Shared}
theorem vals_refs : ∀ {ps : List PQ} {us : List Value}, Vals (ps.map pQ) us → us = ps.map fun q => Value.ref q.1
  | [], us, r => by cases r; rfl
  | q :: ps, us, r => by
    cases r with
    | cons a b =>
      have a : _ = Value.ref q.1 := a
      rw [a, vals_refs b]
      rfl
theorem refs_vals : ∀ (ps : List PQ), Vals (ps.map pQ) (ps.map fun q => Value.ref q.1)
  | [] => .nil
  | q :: ps => .cons rfl (refs_vals ps)
theorem vals_iv : ∀ {ns : List Int} {us : List Value}, Vals (ns.map V.int) us → IntsAre us ns ∧ us.map iv = ns := fun {ns us} r => ⟨r.ints, iv_ints r.ints⟩
theorem srt_run {xs zs : List V} {acc : List Value} (I : L2.Inv X pins σ H s) (h : SrtV X.K H xs zs) (r : Vals xs acc) :
    ∃ ltv, Swo ltv ∧ (∀ (A : Around) (h₁ : Heap) (a : Addr), 2 ≤ acc.length → h₁.get? a = some (seqObj "list" acc.toArray 0) → (∀ b o, s.heap.get? b = some o → h₁.get? b = some o) → SortableO X.prog X.w A { s with heap := h₁ } a acc ltv) ∧
      ∀ out, Srtd ltv out → Stb ltv out acc → Vals zs out := by
  rcases h with ⟨ns, rfl, rfl⟩ | ⟨ps, rfl, hp, rfl⟩
  · refine ⟨ltIv, swo_int, fun A h₁ a h2 _ _ => ints_sortable r.ints h2, fun out h1 h2 => ?_⟩
    obtain ⟨k1, k2, k3⟩ := ints_out r.ints h1 h2
    have e : out.map iv = isortB ltI ns := by
      have O : Swo ltI := ⟨fun x y h => by unfold ltI at h ⊢; have := of_decide_eq_true h; exact decide_eq_false (by omega), fun x y z h1 h2 => by
        unfold ltI at h1 h2 ⊢; have a := of_decide_eq_false h1; have b := of_decide_eq_false h2; exact decide_eq_false (by omega)⟩
      have srt : Srtd ltI (out.map iv) := k3.imp fun {a b} hab => by unfold ltI; exact decide_eq_false (by omega)
      refine isortB_uniq O srt ⟨k2, fun x => ?_⟩
      have hh : ∀ l : List Int, l.filter (eqv ltI x) = List.replicate (l.count x) x := fun l => by
        have e : eqv ltI x = fun y => y == x := by
          funext y
          unfold eqv ltI
          by_cases hxy : y = x
          · subst hxy; simp
          · have : x < y ∨ y < x := by omega
            have e2 : (y == x) = false := by simpa using hxy
            rw [e2]
            rcases this with z | z
            · simp [z]
            · simp [z]
        rw [e, List.filter_beq]
      rw [hh, hh, k2.count_eq]
    rw [← e]
    exact vals_of_ints k1
  · have eacc := vals_refs r
    subst eacc
    have pr : ∀ q ∈ ps, Srt.IsPair s.heap (Value.ref q.1) q.2.1 q.2.2 := fun q hq => by
      obtain ⟨its, rv, ⟨o, ho, hc, n, hd⟩, _⟩ := I.tuple (hp q hq)
      obtain ⟨u1, u2, rfl, ri, rj⟩ := vals2 rv
      obtain ⟨t1, rfl⟩ := ri
      obtain ⟨t2, rfl⟩ := rj
      exact ⟨q.1, o, t1, t2, n, rfl, ho, hc, hd⟩
    have ek : ∀ q ∈ ps, kOf s.heap (Value.ref q.1) = q.2 := fun q hq => kOf_pair (pr q hq)
    refine ⟨fun v u => lexB (kOf s.heap v) (kOf s.heap u), swo_lex _, fun A h₁ a h2 ha kp => ?_, fun out h1 h2 => ?_⟩
    · refine pairs_sortableO (s := { s with heap := h₁ }) (by omega) (fun v hv => ?_) fun o e c => ?_
      · obtain ⟨q, hq, rfl⟩ := List.mem_map.mp hv
        rw [ek q hq]
        exact (pr q hq).keeps fun b o e _ => kp b o e
      · have e' : some o = some (seqObj "list" (ps.map fun q => Value.ref q.1).toArray 0) := e.symm.trans ha
        cases e'
        exact absurd (Value.type.inj c) (by decide)
    · rw [isortB_uniq (swo_lex _) h1 h2, isortB_map (lt := ltQ) ps fun x hx y hy => by rw [ek x hx, ek y hy]; rfl]
      exact refs_vals _
def rSrt (K : PySem.W.Frag) : List V → Hp → VK → Prop := fun vs H Q => ∃ (a : Addr) (xs zs : List V), vs = [V.ref a] ∧ SqL K H a xs ∧ SrtV K H xs zs ∧ ∀ p, H p = none → Q (.ref p) (upd H p (.lst zs))
theorem cr_srt : CallR X (.builtin "sorted") (rSrt X.K) := by
  intro pins s σ H vs us Q I r h
  obtain ⟨a, xs, zs, rfl, hs, hx, q⟩ := h
  obtain ⟨its, rv, hl, hz⟩ := I.list hs
  rw [Vals.ref1 r]
  obtain ⟨ltv, O, hS, hout⟩ := srt_run I hx rv
  have lz : its.length ≤ sizeLine := by rw [← rv.length]; exact hz
  refine sorted_ord O hl.isList lz (fun h2 h₁ a' ha kk => hS _ h₁ a' h2 ha fun b o e => (kk b o e).2) fun out h1 h2 => ?_
  have rz := hout out h1 h2
  obtain ⟨ep, he'⟩ := PyProof.Rows.sortedAll_at s.heap its out.toArray
  have hlen : zs.length ≤ sizeLine := by rw [rz.length, h2.perm.length_eq]; exact lz
  exact ⟨.ref _, upd H (s.heap.objs.size + 1) (.lst zs), I.laid (t' := s.toks) (fun _ _ => PyProof.Rows.sortedAll_old) (Nat.le_succ _) ⟨hlen, out, ep, rz, he'⟩, rfl, q _ (I.hok.fresh (Nat.le_succ _))⟩
end
end DV
end
section
set_option Elab.async false
set_option linter.all false
set_option maxRecDepth 100000
set_option maxHeartbeats 2000000
namespace DV
open PySem L2 PyProof.Rows PySem.Spec LamX SrtO

def pairsD : List D → Option (List (Int × Int))
  | [] => some []
  | .tup [.int i, .int j] :: r => (pairsD r).map ((i, j) :: ·)
  | _ :: _ => none
def pD (q : Int × Int) : D := .tup [.int q.1, .int q.2]
theorem pairsD_eq : ∀ {ds : List D} {ns : List (Int × Int)}, pairsD ds = some ns → ds = ns.map pD
  | [], ns, e => by cases e; rfl
  | .tup [.int i, .int j] :: r, ns, e => by
    unfold pairsD at e
    cases q : pairsD r with
    | none => rw [q] at e; cases e
    | some l => rw [q] at e; cases e; rw [pairsD_eq q]; rfl
def srtD (ds : List D) : Option (List D) := match intsD ds with
  | some ns => some ((isortB ltI ns).map D.int)
  | none => (pairsD ds).map fun ps => (isortB lexB ps).map pD
section
variable {X : Cx} {g : G} {W : WX} {F : Kn} {ι : List Addr} {h : AH} {H : Hp}
theorem pairs_at (hr : HR g F ι h H) : ∀ {ns : List (Int × Int)} {vs : List V}, VRs g F ι (ns.map pD) vs → ∃ ps : List PQ, vs = ps.map pQ ∧ ns = ps.map (·.2) ∧ (∀ q ∈ ps, SqT g.K H q.1 [.int q.2.1, .int q.2.2] ∧ VR g F ι (pD q.2) (pQ q))
  | [], vs, r => by
    simp only [List.map_nil, VRs] at r
    exact ⟨[], r, rfl, by simp⟩
  | n :: ns, vs, r => by
    simp only [List.map_cons, VRs] at r
    obtain ⟨v, ws, rfl, r1, r2⟩ := r
    obtain ⟨ps, rfl, rfl, hp⟩ := pairs_at hr r2
    obtain ⟨a, us, rfl, q1, q2⟩ := tup_ok hr r1
    obtain ⟨x, y, rfl, z1, z2⟩ := two2 q2
    cases z1.int'; cases z2.int'
    refine ⟨(a, n) :: ps, rfl, rfl, fun q hq => ?_⟩
    rcases List.mem_cons.mp hq with rfl | hq
    · exact ⟨q1, r1⟩
    · exact hp q hq
theorem VRs.of_pairs : ∀ {ps : List PQ}, (∀ q ∈ ps, VR g F ι (pD q.2) (pQ q)) → VRs g F ι ((ps.map (·.2)).map pD) (ps.map pQ)
  | [], _ => by simp [VRs]
  | q :: ps, h => by
    simp only [List.map_cons, VRs]
    exact ⟨_, _, rfl, h q List.mem_cons_self, VRs.of_pairs fun x hx => h x (List.mem_cons_of_mem _ hx)⟩
theorem srtD_ok (hr : HR g F ι h H) {ds ds' : List D} {vs : List V} (e : srtD ds = some ds') (r : VRs g F ι ds vs) : ∃ zs, SrtV g.K H vs zs ∧ VRs g F ι ds' zs := by
  unfold srtD at e
  cases q : intsD ds with
  | some ns =>
    rw [q] at e
    cases e
    rw [intsD_eq q] at r
    exact ⟨_, .inl ⟨ns, VRs.ints' r, rfl⟩, VRs.ints _⟩
  | none =>
    rw [q] at e
    cases q2 : pairsD ds with
    | none => rw [q2] at e; cases e
    | some ns =>
      rw [q2] at e
      cases e
      rw [pairsD_eq q2] at r
      obtain ⟨ps, rfl, rfl, hp⟩ := pairs_at hr r
      refine ⟨_, .inr ⟨ps, rfl, fun q hq => (hp q hq).1, rfl⟩, ?_⟩
      have em : isortB lexB (ps.map (·.2)) = (isortB ltQ ps).map (·.2) := isortB_map (lt := ltQ) ps fun _ _ _ _ => rfl
      show VRs g F ι ((isortB lexB (ps.map (·.2))).map pD) _
      rw [em]
      exact VRs.of_pairs fun q hq => (hp q ((isortB_perm ps).mem_iff.mp hq)).2
def srt1 (mu : Bool) (d : D) (h : AH) : Rv D := match getL h d with
  | some ys => match srtD ys with | some xs => mkL mu xs h | none => .stuck
  | none => .stuck
def bSorted (mu : Bool) (ds : List D) (h : AH) : Rv D := match ds with
  | [d] => srt1 mu d h
  | _ => .stuck
theorem k_sorted (t : TiOk g) (mu : Bool) : CallOk g (rSrt g.K) (bSorted mu) := by
  intro W F ι h H σv ds vs Q hr rv p
  unfold bSorted at p
  split at p
  · obtain ⟨v, rfl, r⟩ := one1 rv
    unfold srt1 at p
    split at p
    · rename_i ys q
      split at p
      · rename_i xs e
        obtain ⟨a, ws, rfl, q1, q2⟩ := getL_ok hr q r
        obtain ⟨zs, s1, s2⟩ := srtD_ok hr e q2
        exact ⟨a, ws, zs, rfl, q1, s1, mkL_ok t hr s2 p⟩
      · exact p.elim
    · exact p.elim
  · exact p.elim
theorem c_sorted (hK : X.K = g.K) : CallR X (.builtin "sorted") (rSrt g.K) := by rw [← hK]; exact cr_srt
/-! ### sorted(generator) -/
def fkS (mu : Bool) (ds : List D) (h : AH) : Rv D := match srtD ds with | some xs => mkL mu xs h | none => .stuck
variable {pins : List (Addr × Obj)} {σ : L2.St} {H2 : Hp} {s5 : Shared}
theorem sorted_gx {k : Nat} {turn : (List V → Hp → Prop) → (List V → V → Hp → Prop) → (List V → Prop) → (Nat → Nat → List V → Hp → Prop) → Prop} {W' : Nat → Nat → List V → Hp → Prop} {u : Value} {fin : List V → Hp → Prop} {Q : Value → Shared → Prop} {E : Value → Shared → Prop} (hr : Room (k + 5) X.A) (I : L2.Inv X pins σ H2 s5) (L : GxLive X pins σ k turn H2 u s5)
    (ht : ∀ Ok, turn fin (fun _ _ _ => True) Ok W') (hW : ∃ m, W' 0 m [] H2) (hQ : ∀ ys H', fin ys H' → ys.length ≤ sizeLine → ∃ zs, SrtV X.K H' ys zs ∧ ∀ p s', H' p = none → L2.Inv X pins σ (upd H' p (.lst zs)) s' → Q (.ref p) s') :
    wpAny (model X.prog X.w) X.A (call (.builtin "sorted") [u]) Q E s5 := by
  refine Calls.call_function_entry kind_sorted plain_sorted entry_sorted (args_sorted1 _) ?_
  unfold Builtin.«sorted»
  refine wpAny_bind (m := checkCount "sorted" 1 1 _) (wpAny_pure ?_)
  have r2 : Room (k + 2) X.A.in1 := Room.in1 (hr.mono (by omega))
  refine wpAny_bind (collect_gx (A := X.A.in1) r2 I.ok.frames I L ht hW fun ys acc H' s' hl rv I' hq => ?_)
  obtain ⟨zs, hz, hQ⟩ := hQ ys H' hq hl
  obtain ⟨ltv, O, hS, hout⟩ := srt_run I' hz rv
  have lz : acc.length ≤ sizeLine := by rw [← rv.length]; exact hl
  refine wpAny_bind (wpAny_newList ?_ lz)
  have ho : (s'.heap.push (seqObj "list" acc.toArray 0)).get? s'.heap.objs.size = some (seqObj "list" acc.toArray 0) := Heap.get?_push_size _ rfl
  have kp : ∀ b o, s'.heap.get? b = some o → (s'.heap.push (seqObj "list" acc.toArray 0)).get? b = some o := fun b o e => Heap.get?_push_of_some _ e
  refine wpAny_bind (wpAny_holding (wpAny_call_entry slot_list_sort ⟨_, ho, rfl⟩ entry_list_sort (list_sort_ord O ho lz (fun h2 => hS _ _ _ h2 ho kp) fun out h1 h2 => ⟨_, rfl, ?_⟩) (args_list_sort _)))
  refine wpAny_pure ⟨_, rfl, ?_⟩
  have rz := hout out h1 h2
  obtain ⟨ep, he'⟩ := sortedHeap_at (n := 0) (vs := acc) (out := out.toArray) ho
  have hlen : zs.length ≤ sizeLine := by rw [rz.length, h2.perm.length_eq]; exact lz
  refine hQ s'.heap.objs.size _ (I'.hok.fresh (Nat.le_refl _)) (I'.laid (t' := s'.toks) (fun b o e => ?_) (Nat.le_refl _) ⟨hlen, out, ep, rz, he'⟩)
  have hlt : b < s'.heap.objs.size := Heap.lt_size e
  rw [sortedHeap_old (Nat.ne_of_lt hlt) (by rw [size_push']; exact Nat.lt_succ_of_lt hlt)]
  exact kp b o e
variable {mi : MI} {mg : MG} {mt : MT} {me : ME} {is vs : List Nat} {k : Nat} {p pos : Pos} {elt : Expr} {gs : List Comprehension} {scope : Scope} {gpos : Pos}
theorem em_sortedG (hK : X.K = g.K) (mu : Bool) (hr : Room (k + 6) X.A) (hg : Gl X "sorted") (hm : X.mg "sorted" = none) (hb : bootBuiltins "sorted" = some (.builtin "sorted")) (t : TiOk g) (G : GxP X g W k (.GeneratorExp elt gs scope gpos) mi vs is mg mt me)
    (he : starEach [.GeneratorExp elt gs scope gpos] X.env = (false, eval (.GeneratorExp elt gs scope gpos) X.env) :: starEach [] X.env := by rfl) :
    PE X (.Call (.Name "sorted" p) [.GeneratorExp elt gs scope gpos] [] pos) (tE g W (mGx mi vs mg mt me tkCol [] (fkS mu))) := by
  refine ⟨fun pins s σ H Q I h => ?_⟩
  refine wpAny_Call_Name_kw (ld_blt I hg hm hb ?_)
  refine PyProof.Rows.callWith_builtin1 ?_ he (by rfl)
  rw [he]
  show wpAny _ _ (spliced ((false, eval (.GeneratorExp elt gs scope gpos) X.env) :: backTo pos (starEach [] X.env))) _ _ s
  refine Calls.spliced_cons (G.run pins s σ H _ _ I (gx_in h) fun J H1 H2 u s5 hR hE hT I5 L => ?_)
  refine Calls.spliced_nil ?_
  obtain ⟨F1, ι1, W', hW', turn⟩ := gx_go (rel := fun st F ι ys => VRs g F ι st ys) G hR hE hT (fun _ _ _ _ _ _ l r => VRs.mono l _ _ r) fun _ _ => by simp [VRs]
  refine sorted_gx (fin := gFin g W F1 ι1 σ (fkS mu) (fun st F ι ys => VRs g F ι st ys) Q) hr I5 L (fun Ok => ?_) hW' fun ys H' hq hl => ?_
  · have t2 := turn Ok fun st d st' b F ι ys y h1 h2 h3 _ => by
      cases h1
      exact ⟨rfl, h2.append (VRs.one h3)⟩
    intro i m ys H hw
    rcases t2 i m ys H hw with ⟨a, b⟩ | ⟨a, Nx, b1, b2⟩
    · exact .inl ⟨a, b⟩
    · refine .inr ⟨a, Nx, b1, fun x H' hy => ?_⟩
      exact tG_mono (b2 x H' hy) fun σ2 H2 ⟨c1, c2⟩ => ⟨c1, tM_mono c2 fun b H3 c3 => by
        cases b with
        | false => exact c3
        | true =>
          simp only [if_true] at c3 ⊢
          exact tM_mono c3 fun y H4 ⟨d1, _, d3⟩ => ⟨d1, trivial, d3⟩⟩
  · obtain ⟨F, ι, h, st, lf, hr', rl, q⟩ := hq
    unfold fkS at q
    cases e : srtD st with
    | none => rw [e] at q; exact q.elim
    | some xs =>
      rw [e] at q
      obtain ⟨zs, s1, s2⟩ := srtD_ok hr' e rl
      refine ⟨zs, by rw [hK]; exact s1, fun p s' hp I' => ⟨.ref p, _, I', rfl, mkL_ok t hr' s2 (q.le lf) p hp⟩⟩
end
end DV
end
section
set_option Elab.async false
set_option linter.all false
set_option maxRecDepth 100000
set_option maxHeartbeats 2000000
namespace DV
open PySem L2 PyProof.Rows PySem.Spec

/-! ### enumerate over a tuple -/
theorem enum1_meets {v : Value} {o : Obj} {Hh : Heap → Prop} (B : Begins v o Hh) :
    Meets (Builtin.«enumerate.__new__» ⟨[.type "enumerate", v], []⟩) (fun _ R s => Hh s.heap ∧
      R (.ok (.ret (.ref (s.heap.push o).objs.size))) { s with heap := (s.heap.push o).push { cls := .type "enumerate", data := .fields #[.none, .bool false, .ref s.heap.objs.size, rawInt 0, .none, .none] } }) :=
  .of_wp fun prog w A R s h => by
    obtain ⟨hp, g, d, tk, os⟩ := s; obtain ⟨h1, h⟩ := h
    have hsub := sub_enumerate
    have q1 : ∀ {A' : Around} {E : Value → Shared → Prop} {Q : Value → Shared → Prop}, Q (.ref hp.objs.size) ⟨hp.push o, g, d, tk, os⟩ → wpAny (model prog w) A' (pyIter v) Q E ⟨hp, g, d, tk, os⟩ :=
      fun q => B.iter prog w _ _ ⟨hp, g, d, tk, os⟩ _ h1 q
    wp_walk using q1
    refine wpAny_stack_any fun st => wpAny_pure ?_
    split
    · rename_i c _ _ _ _ _
      cases (c == Value.type "enumerate")
      · wp_walk using q1
        exact ⟨_, rfl, h⟩
      · wp_walk using q1
        exact ⟨_, rfl, h⟩
    · wp_walk using q1
      exact ⟨_, rfl, h⟩
theorem enum1_call {prog : Program} {w : World} {A : Around} {E : Value → Shared → Prop} {s : Shared} {v : Value} {o : Obj} {Hh : Heap → Prop} {Q : Value → Shared → Prop} (B : Begins v o Hh) (h1 : Hh s.heap)
    (h : ∀ h', IsEnum h' (s.heap.objs.size + 1) s.heap.objs.size 0 .none → h'.get? s.heap.objs.size = some o → (∀ b o, s.heap.get? b = some o → h'.get? b = some o) → Q (.ref (s.heap.objs.size + 1)) { s with heap := h' }) :
    wpAny (model prog w) A (call (.type "enumerate") [v]) Q E s := by
  refine callType_new F.called_enumerate (by decide) (F.typeCall_enumerate_1 _) (F.newCall_enumerate_1 _) (fun obj => F.args_object_init_2 obj _) F.entry_enumerate_new (enum1_meets B) ⟨h1, ?_⟩
  have hz : (s.heap.push o).objs.size = s.heap.objs.size + 1 := Heap.size_push ..
  show _ ∧ _
  rw [hz]
  have he : IsEnum ((s.heap.push o).push { cls := .type "enumerate", data := .fields #[.none, .bool false, .ref s.heap.objs.size, rawInt 0, .none, .none] }) (s.heap.objs.size + 1) s.heap.objs.size 0 .none := by
    have := Heap.get?_push_size (s.heap.push o) (o := { cls := .type "enumerate", data := .fields #[.none, .bool false, .ref s.heap.objs.size, rawInt 0, .none, .none] }) rfl
    rw [hz] at this; exact this
  exact ⟨⟨_, he, rfl⟩, h _ he (Heap.get?_push_of_some _ (Heap.get?_push_size _ B.free)) fun b o x => Heap.get?_push_of_some _ (Heap.get?_push_of_some _ x)⟩
def IteT (K : PySem.W.Frag) (a : Addr) : It :=
  ⟨fun i H => ∃ (xs : List V) (x : V), SqT K H a xs ∧ xs[i]? = some x, fun i H v H' => ∃ T x, v = .ref T ∧ H T = none ∧ H' = upd H T (.tup [.int (i : Nat), x]) ∧ ∀ xs, SqT K H a xs → xs[i]? = some x, fun i H => ∃ xs : List V, SqT K H a xs ∧ xs.length ≤ i⟩
theorem turn_enumT {P : Program} {w : World} {K : PySem.W.Frag} {elts : List Expr} {kk : Nat} {tpos : Pos} (a e it : Addr) :
    Turn P w K (.Tuple elts kk tpos) (IteT K a) [e, it] e (fun i h => (∃ old, IsEnum h e it ((i : Nat) : Int) old) ∧ h.IsTupleIter it a i ∧ e ≠ it) where
  mem := by simp
  obj := fun i h st b hb => by
    obtain ⟨⟨old, he⟩, ⟨o, ho, hc, hd⟩, _⟩ := st
    have e' : b = e ∨ b = it := by simpa using hb
    rcases e' with z | z
    · rw [z]; exact ⟨_, he, fun v q => nomatch q⟩
    · rw [z]; exact ⟨o, ho, fun v q => by rw [hd] at q; cases q⟩
  keep := fun i h h' st k => let ⟨⟨old, he⟩, hi, hne⟩ := st; ⟨⟨old, k e (by simp) _ he⟩, hi.at fun o q => k it (by simp) o q, hne⟩
  item := by
    intro X hP hw hK hc i pins s σ H E I hf st hg
    subst hP hw hK
    obtain ⟨⟨old, he⟩, hit, hne⟩ := st
    obtain ⟨xs, x, hq, hx⟩ := hg
    obtain ⟨its, rv, p, hz⟩ := I.tuple hq
    obtain ⟨u, hu, ru⟩ := rv.get hx
    have hT : s.heap.IsTuple a its.toArray := p
    have hel : e < s.heap.objs.size := Heap.lt_size he
    have hil : it < s.heap.objs.size := by obtain ⟨_, q, _⟩ := hit; exact Heap.lt_size q
    have hae : a ≠ e := fun z => by
      obtain ⟨o, ho, hc', _⟩ := hT
      rw [z] at ho
      have he' : s.heap.get? e = some _ := he
      rw [he'] at ho
      cases ho
      exact absurd (Value.type.inj hc') (by decide)
    have hai : a ≠ it := fun z => by
      obtain ⟨o, ho, hc', _⟩ := hT
      obtain ⟨o2, ho2, hc2, _⟩ := hit
      rw [z, ho2] at ho
      cases ho
      rw [hc2] at hc'
      exact absurd (Value.type.inj hc') (by decide)
    have hef : e ∉ [it, a] := fun z => by
      rcases List.mem_cons.mp z with z | z
      · exact hne z
      · exact hae (List.mem_singleton.mp z).symm
    refine wpAny_pyNext_enum_itemD (Draws.tuple (A := X.A.in1) (I.ok.hd hc) it a hai its.toArray) he ⟨hit, hT⟩ (by have := (List.getElem?_eq_some_iff.mp hu).1; simpa using this) hne hef fun x' h' tk hx' ho hit' hT1 hsz hk => ?_
    have ex : x' = u := by
      have e1 : its.toArray[i]? = some x' := hx'
      rw [show its.toArray[i]? = its[i]? by simp, hu] at e1
      exact (Option.some.inj e1).symm
    subst ex
    refine ⟨_, rfl, wpAny_letOwnedTupleGo_enum (s := { s with heap := h', toks := tk + 1 }) ho fun h'' he' sb => ?_⟩
    have hT2 : h''.get? s.heap.objs.size = some { cls := .type "tuple", data := .seq #[.int i tk, x'] } := (sb.2 _ (Nat.ne_of_gt hel)).trans hT1
    have new : ObjOk X.prog X.w (upd H s.heap.objs.size (.tup [.int (i : Nat), x])) h'' s.heap.objs.size (.tup [.int (i : Nat), x]) :=
      ⟨by show 2 ≤ sizeLine; decide, [.int i tk, x'], .cons ⟨_, rfl⟩ (.cons ru .nil), ⟨_, hT2, rfl, _, rfl⟩⟩
    have I1 : L2.Inv X pins σ (upd H s.heap.objs.size (.tup [.int (i : Nat), x])) { s with heap := h'', toks := tk + 1 } :=
      I.turnedNew (ch := [e, it]) (fun b ob hb q => (sb.2 b (fun z => hb (by simp [z]))).trans (hk b ob (fun z => hb (by simp [z])) (fun z => hb (by simp [z])) q)) hf (Nat.le_refl _) new
    refine ⟨.ref s.heap.objs.size, _, I1, rfl, ⟨_, x, rfl, I.hok.fresh (Nat.le_refl _), rfl, fun ys hy => by rw [I.tuple_inj hy hq]; exact hx⟩, ⟨⟨x', ?_⟩, hit'.1.at fun o q => (sb.2 it (Ne.symm hne)).trans q, hne⟩, fun b hb => ?_⟩
    · have e1 : ((i + 1 : Nat) : Int) = (i : Int) + 1 := by omega
      rw [e1]; exact he'
    · have hb' : b < s.heap.objs.size := by
        have e' : b = e ∨ b = it := by simpa using hb
        rcases e' with z | z
        · rw [z]; exact hel
        · rw [z]; exact hil
      rw [upd_ne (Nat.ne_of_lt hb')]
      exact (hf b hb).1
  done := by
    intro X hP hw hK hc i pins s σ H E I hf st hg
    subst hP hw hK
    obtain ⟨⟨old, he⟩, hit, hne⟩ := st
    obtain ⟨xs, hq, hx⟩ := hg
    obtain ⟨its, rv, p, hz⟩ := I.tuple hq
    have hT : s.heap.IsTuple a its.toArray := p
    obtain ⟨f0, f1, f2, f3, f4, f5⟩ := hf it (by simp)
    have hl := rv.length
    have hT' : s.TypeIs (.ref e) "enumerate" := ⟨_, he, rfl⟩
    unfold pyNext
    refine wpAny_bind (wpAny_attempt (wpAny_callSpecial?_slot (name := Str.ofString "__next__") hT' F.slot_enumerate_next (wpAny_call_entry F.slot_enumerate_next hT' F.entry_enumerate_next ?_ (F.args_enumerate_next_1 _))))
    show wpAny _ _ (field (.ref e) 2 >>= _) _ _ _
    refine wpAny_bind (wpAny_field he rfl (x := .ref it) rfl ?_)
    refine wpAny_bind (wpAny_nextOf_tuple_end (A := X.A.in1) (I.ok.hd hc) hit hT (by simp; omega) fun h' x he' hx' => ?_)
    obtain ⟨o, ho, hc'⟩ := hx'
    refine wpAny_bind (wpAny_isInstance (T := "StopIteration") (b := true) ⟨o, ho, hc'⟩ isSubtype_stop ?_)
    exact wpAny_pure ⟨rfl, I.turned (t' := s.toks) (fun b o hb q => he' b o hb q) f0 f1 f3 f4 f5⟩
  self := fun A i s Q E st h => let ⟨⟨_, he⟩, _⟩ := st; wpAny_pyIter_enum he h
/-- enumerate of a list or a tuple -/
def iEnumA (K : PySem.W.Frag) (ta : TA) : TI := fun σ H R => ta σ H fun vs H1 => ∃ a, vs = [.ref a] ∧ ((∃ xs, SqL K H1 a xs ∧ R (Ite K a) H1) ∨ ∃ xs, SqT K H1 a xs ∧ R (IteT K a) H1)
theorem pi_enumA {X : Cx} {e : Expr} {ta : TA} {p pos tpos : Pos} {elts : List Expr} {kk : Nat} (hg : Gl X "enumerate") (hm : X.mg "enumerate" = none) (ha : PA X [e] ta) (hs : starEach [e] X.env = [(false, eval e X.env)] := by rfl) :
    PI X (.Tuple elts kk tpos) (.Call (.Name "enumerate" p) [e] [] pos) (iEnumA X.K ta) := by
  refine ⟨fun pins s σ H R I h => ?_⟩
  refine Call_ (ld_blt I hg hm boot_enumerate (PyProof.Rows.callWith_type1 (thn (ha.run pos pins s σ H _ I h) fun us s1 ⟨vs, H1, I1, r1, q1⟩ => ?_) hs rfl))
  obtain ⟨a, ex, q⟩ := q1
  subst ex
  cases r1 with
  | cons r rr =>
    cases rr
    cases r
    rcases q with ⟨xs, hq, q⟩ | ⟨xs, hq, q⟩
    · obtain ⟨its, rv, p', hz⟩ := I1.list hq
      refine call_enumerate_list p'.isList fun h' he hit hsz hk => wpAny_pyIter_enum he ?_
      have I2 : L2.Inv X pins σ H1 { s1 with heap := h' } := I1.kept (t' := s1.toks) hk
      refine ⟨s1.heap.objs.size + 1, [s1.heap.objs.size + 1, s1.heap.objs.size], _, _, H1, rfl, I2, turn_enum a (s1.heap.objs.size + 1) s1.heap.objs.size, ⟨⟨.none, he⟩, hit, Nat.succ_ne_self _⟩, fun b hb => ?_, q⟩
      have hle : s1.heap.objs.size ≤ b := by
        have e' : b = s1.heap.objs.size + 1 ∨ b = s1.heap.objs.size := by simpa using hb
        rcases e' with z | z <;> rw [z]
        · exact Nat.le_succ _
        · exact Nat.le_refl _
      exact I1.fpOk hle (I1.hok.fresh hle)
    · obtain ⟨its, rv, p', hz⟩ := I1.tuple hq
      refine enum1_call (begins_tuple a its.toArray) p' fun h' he hit hk => wpAny_pyIter_enum he ?_
      have I2 : L2.Inv X pins σ H1 { s1 with heap := h' } := I1.kept (t' := s1.toks) hk
      refine ⟨s1.heap.objs.size + 1, [s1.heap.objs.size + 1, s1.heap.objs.size], _, _, H1, rfl, I2, turn_enumT a (s1.heap.objs.size + 1) s1.heap.objs.size, ⟨⟨.none, he⟩, ⟨_, hit, rfl, rfl⟩, Nat.succ_ne_self _⟩, fun b hb => ?_, q⟩
      have hle : s1.heap.objs.size ≤ b := by
        have e' : b = s1.heap.objs.size + 1 ∨ b = s1.heap.objs.size := by simpa using hb
        rcases e' with z | z <;> rw [z]
        · exact Nat.le_succ _
        · exact Nat.le_refl _
      exact I1.fpOk hle (I1.hok.fresh hle)
end DV
end
section
set_option Elab.async false
set_option linter.all false
set_option maxRecDepth 100000
set_option maxHeartbeats 2000000
namespace DV
open PySem L2 PyProof.Rows PySem.Spec LamX

section
variable {X : Cx} {g : G} {W : WX} {F : Kn} {ι : List Addr} {h : AH} {H : Hp} {st : Stmt} {e a b o i c value : Expr} {es : List Expr} {m ma mb mo mi me mv : ME} {r : MA} {pos p tpos pos' apos : Pos}
/-! ### stores at places -/
def listAt (d : D) (h : AH) : Option (Nat × List D) := match d with
  | .ref n => match h[n]? with
    | some (some (.lst ds)) => some (n, ds)
    | _ => none
  | _ => none
theorem listAt_ok (hr : HR g F ι h H) {d : D} {v : V} {n : Nat} {ds : List D} (e : listAt d h = some (n, ds)) (rv : VR g F ι d v) : ∃ l vs, v = .ref l ∧ ι[n]? = some l ∧ h[n]? = some (some (.lst ds)) ∧ H l = some (.lst vs) ∧ VRs g F ι ds vs := by
  cases d with
  | ref k =>
    simp only [VR] at rv
    obtain ⟨l, rfl, en⟩ := rv
    simp only [listAt] at e
    split at e
    · rename_i xs eo
      cases e
      obtain ⟨b, z, q1, q2, ⟨vs, rfl, q3⟩, q4⟩ := hr.hp n _ eo
      rw [en] at q1
      cases q1
      exact ⟨l, vs, rfl, en, eo, q2, q3⟩
    · cases e
  | _ => cases e
theorem listAt_put (t : TiOk g) (hr : HR g F ι h H) {n : Nat} {l : Addr} {ds ds' : List D} {vs vs' : List V} (en : ι[n]? = some l) (eo : h[n]? = some (some (.lst ds))) (q : H l = some (.lst vs)) (rv : VRs g F ι ds' vs') :
    HR g F ι (h.set n (some (.lst ds'))) (upd H l (.lst vs')) := hr.write t eo en (by rw [q]; trivial) ⟨vs', rfl, rv⟩
def setAt (x k v : D) (h : AH) : Option AH := match listAt x h, k with
  | some (n, ds), .int z => (ixN ds.length z).map fun j => h.set n (some (.lst (ds.set j v)))
  | _, _ => none
theorem setAt_ok (t : TiOk g) (hr : HR g F ι h H) {x k d : D} {h' : AH} {u w y : V} (e : setAt x k d h = some h') (rx : VR g F ι x u) (rk : VR g F ι k w) (rd : VR g F ι d y) :
    ∃ l vs z j, u = .ref l ∧ w = .int z ∧ H l = some (.lst vs) ∧ ixN vs.length z = some j ∧ HR g F ι h' (upd H l (.lst (vs.set j y))) := by
  unfold setAt at e
  split at e
  · rename_i n ds z e1
    obtain ⟨l, vs, rfl, en, eo, q, rv⟩ := listAt_ok hr e1 rx
    cases rk.int'
    cases e2 : ixN ds.length z with
    | none => rw [e2] at e; cases e
    | some j =>
      rw [e2] at e
      cases e
      exact ⟨l, vs, z, j, rfl, rfl, q, by rw [rv.length]; exact e2, listAt_put t hr en eo q (rv.set rd)⟩
  · cases e
/-- o[i] = .. as a target -/
def gmSub (mo mi : ME) : MG := fun d σ h => bindR (mo σ h) fun x h1 => bindR (mi σ h1) fun k h2 => match setAt x k d h2 with | some h3 => .ok σ h3 | none => .stuck
theorem gm_sub (t : TiOk g) (ho : PE X o (tE g W0 mo)) (hi : PE X i (tE g W0 mi))
    (ha : ∀ v, assign (.Subscript o i pos) X.env v = (do
      let ov ← holding [v] (eval o X.env)
      let iv ← holding [v, ov] (eval i X.env)
      standAt pos
      holding [v, ov, iv] (setItem ov iv v)
      release [v, ov, iv] []) := by intro _; rfl) : PG X (.Subscript o i pos) (tG g W [] (gmSub mo mi)) := by
  refine PG_weak (pg_sub ho hi set_list ha) ?_
  rintro y σv H Q ⟨F, ι, σ, h, d, hr, lr, rd, p⟩
  unfold gmSub at p
  refine ⟨F, ι, σ, h, hr, lr, ?_⟩
  revert p
  cases mo σ h with
  | exc c h1 => exact fun p => p.elim
  | stuck => exact fun p => p.elim
  | ok x h1 =>
    intro p F1 ι1 H1 u l1 hr1 r1
    refine ⟨F1, ι1, σ, h1, hr1, lr.mono l1, ?_⟩
    have p : (match bindR (mi σ h1) fun k h2 => (match setAt x k d h2 with | some h3 => Rv.ok σ h3 | none => .stuck) with | .ok σ' h' => ∀ F' ι' H' σv', Le F ι F' ι' → HR g F' ι' h' H' → LR g F' ι' σ' σv' → SameBut [] σv σv' → Q σv' H' | _ => False) := p
    revert p
    cases mi σ h1 with
    | exc c h2 => exact fun p => p.elim
    | stuck => exact fun p => p.elim
    | ok k h2 =>
      intro p F2 ι2 H2 w l2 hr2 r2
      have p : (match (match setAt x k d h2 with | some h3 => Rv.ok σ h3 | none => .stuck) with | .ok σ' h' => ∀ F' ι' H' σv', Le F ι F' ι' → HR g F' ι' h' H' → LR g F' ι' σ' σv' → SameBut [] σv σv' → Q σv' H' | _ => False) := p
      cases e : setAt x k d h2 with
      | none => rw [e] at p; exact p.elim
      | some h3 =>
        rw [e] at p
        obtain ⟨l, vs, z, j, rfl, rfl, q1, q2, q3⟩ := setAt_ok t hr2 e (VR.mono l2 _ _ r1) r2 (VR.mono (l1.trans l2) _ _ rd)
        exact ⟨l, vs, z, j, rfl, rfl, q1, q2, p F2 ι2 _ σv (l1.trans l2) q3 (lr.mono (l1.trans l2)) .refl⟩
/-! o[i] op= e -/
theorem get_list : PGet X (fun x y H Q => ∃ p xs k v, x = .ref p ∧ y = .int k ∧ SqL X.K H p xs ∧ atI xs k = some v ∧ Q v H) := by
  intro pins s σ H x y ov iv Q I rx ry h
  obtain ⟨p, xs, k, z, rfl, rfl, hq, he, q⟩ := h
  cases rx
  obtain ⟨t, rfl⟩ := ry
  obtain ⟨its, r, pl, hz⟩ := I.list hq
  obtain ⟨j, h1, h2, h3, h4, h5⟩ := atI_get he
  obtain ⟨w, ew, rw'⟩ := r.get h2
  have hl := r.length
  have hn := line63
  have fin : EP X pins σ Q w s := ⟨z, H, I, rw', q⟩
  by_cases h0 : 0 ≤ k
  · have hj : k.toNat = j := by
      rw [seqIndex_of h0 h5] at h1
      exact Option.some.inj h1
    exact wpAny_getItem_list pl.isList h0 (by omega) (by rw [hj]; simpa using ew) fin
  · have hj : (k + (its.toArray.size : Int)).toNat = j := by
      rw [seqIndex_neg (by omega) h4] at h1
      rw [List.size_toArray, ← hl]
      exact Option.some.inj h1
    exact wpAny_getItem_list_neg pl.isList (by omega) (by rw [List.size_toArray] <;> omega) (by omega) (by rw [hj]; simpa using ew) fin
def sAugI (f : D → D → AH → Rv D) (mo mi me : ME) : MS := fun σ h => ofE σ (mo σ h) fun x h1 => ofE σ (mi σ h1) fun k h2 => match getL h2 x, k with
  | some xs, .int z => match atI xs z with
    | some y => ofE σ (me σ h2) fun e h3 => ofE σ (f y e h3) fun n h4 => match setAt x k n h4 with | some h5 => .ok (.nx σ) h5 | none => .stuck
    | none => .stuck
  | _, _ => .stuck
theorem atI_rel2 {ds : List D} {vs : List V} {z : Int} {d : D} (r : VRs g F ι ds vs) (e : atI ds z = some d) : ∃ v, atI vs z = some v ∧ VR g F ι d v := by
  unfold atI at e ⊢
  rw [r.length]
  cases q : ixN ds.length z with
  | none => rw [q] at e; cases e
  | some j =>
    rw [q] at e
    obtain ⟨v, h1, h2⟩ := r.get e
    exact ⟨v, h1, h2⟩
theorem sm_augI (t : TiOk g) (hK : X.K = g.K) {op : Operator} {ti : TIp} {f : D → D → AH → Rv D} (ho : PE X o (tE g W mo)) (hi : PE X i (tE g W mi)) (he : PE X e (tE g W me)) (hp : PIp X op ti) (hk : OpOk g ti f)
    (ha : ∀ ov iv new, augStore i ov iv new = (do holding [new, ov, iv] (setItem ov iv new); release [new, ov, iv] []; pure .next) := by intros; rfl) : PS X (.AugAssign (.Subscript o i tpos) op e pos) (tS g W (sAugI f mo mi me)) := by
  refine PS_weak (ps_augS ho hi get_list he hp set_list ha) ?_
  rintro E σv H ⟨F, ι, σ, h, hr, lr, p⟩
  unfold sAugI at p
  refine tS_bind (f := fun σ x h1 => ofE σ (mi σ h1) fun k h2 => match getL h2 x, k with
    | some xs, .int z => match atI xs z with
      | some y => ofE σ (me σ h2) fun e h3 => ofE σ (f y e h3) fun n h4 => match setAt x k n h4 with | some h5 => .ok (.nx σ) h5 | none => .stuck
      | none => .stuck
    | _, _ => .stuck) hr lr p fun F1 ι1 H1 x h1 u l1 hr1 lr1 r1 p1 => ?_
  refine tS_bind (f := fun σ k h2 => match getL h2 x, k with
    | some xs, .int z => match atI xs z with
      | some y => ofE σ (me σ h2) fun e h3 => ofE σ (f y e h3) fun n h4 => match setAt x k n h4 with | some h5 => .ok (.nx σ) h5 | none => .stuck
      | none => .stuck
    | _, _ => .stuck) hr1 lr1 p1 fun F2 ι2 H2 k h2 w l2 hr2 lr2 r2 p2 => ?_
  split at p2
  · rename_i xs z e1
    split at p2
    · rename_i y e2
      have rx2 := VR.mono l2 _ _ r1
      obtain ⟨b, vs, rfl, s1, s2⟩ := getL_ok hr2 e1 rx2
      cases r2.int'
      obtain ⟨v, e3, rv⟩ := atI_rel2 s2 e2
      refine ⟨b, vs, z, v, rfl, rfl, by rw [hK]; exact s1, e3, ?_⟩
      refine tS_bind (f := fun σ e h3 => ofE σ (f y e h3) fun n h4 => match setAt x (.int z) n h4 with | some h5 => .ok (.nx σ) h5 | none => .stuck) hr2 lr2 p2 fun F3 ι3 H3 d h3 u l3 hr3 lr3 r3 p3 => ?_
      refine hk W F3 ι3 h3 H3 σv y d v u _ hr3 (VR.mono l3 _ _ rv) r3 (ofE_post lr3 p3 fun F4 ι4 H4 n h4 w l4 hr4 lr4 r4 p4 => ?_)
      split at p4
      · rename_i h5 e5
        obtain ⟨l, vs', z', j, q1, q2, q3, q4, q5⟩ := setAt_ok t hr4 e5 (VR.mono (l3.trans l4) _ _ rx2) (by simp [VR] : VR g F4 ι4 (.int z) (.int z)) r4
        exact ⟨l, vs', z', j, q1, q2, q3, q4, nxt p4 q5 lr4⟩
      · exact p4.elim
    · exact p2.elim
  · exact p2.elim
/-! ### a method of a list by values -/
def mBM (ty : AH → D → Bool) (f : D → List D → AH → Rv D) (mo : ME) (r : MA) : ME := fun σ h => bindR (mo σ h) fun x h1 => if ty h1 x = true then bindR (r σ h1) fun xs h2 => f x xs h2 else .stuck
def MetOk (g : G) (rm : V → List V → Hp → VK → Prop) (f : D → List D → AH → Rv D) : Prop :=
  ∀ (W : WX) (F : Kn) (ι : List Addr) (h : AH) (H : Hp) (σv : L2.St) (x : D) (ds : List D) (u : V) (vs : List V) (Q : VK), HR g F ι h H → VR g F ι x u → VRs g F ι ds vs → Post g W F ι σv (VR g) (f x ds h) Q → rm u vs H Q
def TyOk (g : G) (T : String) (ty : AH → D → Bool) : Prop := ∀ (F : Kn) (ι : List Addr) (h : AH) (H : Hp) (x : D) (u : V), HR g F ι h H → VR g F ι x u → ty h x = true → tyV g.K T u H
theorem em_bm {T id : String} {name : Str} {rm : V → List V → Hp → VK → Prop} {f : D → List D → AH → Rv D} {ty : AH → D → Bool} {cpos : Pos} (hK : X.K = g.K) (pa : PlainAttrs T) (slot : Slot T name id) (hty : typeOf (.builtin id) = pure (.type "method_descriptor")) (hm : MtR X id rm) (hk : MetOk g rm f) (ht : TyOk g T ty)
    (ho : PE X o (tE g W mo)) (ha : PA X (e :: es) (tA g W r)) (hbase : attributeBase o name X.env (eval o X.env) = eval o X.env := by rfl)
    (hfew : ((backTo cpos (starEach (e :: es) X.env)).all (fun x => !x.1) && (backToKw cpos (keywordEach [] X.env)).all (fun x => x.1.isSome)
      && decide ((e :: es).length + ([] : List Keyword).length + (if ([] : List Keyword).isEmpty then 0 else 1) < 30)) = true := by rfl)
    (hline : (apos.endLine == cpos.line) = true := by rfl) (hs : starEach (e :: es) X.env = (false, eval e X.env) :: starEach es X.env := by rfl) (hplain : (backTo cpos (starEach es X.env)).any (·.1) = false := by rfl) :
    PE X (.Call (.Attribute o name apos) (e :: es) [] cpos) (tE g W (mBM ty f mo r)) := by
  refine PE_weak (pe_bm pa slot hty hm ho ha hbase hfew hline hs hplain) ?_
  rintro σv H Q ⟨F, ι, σ, h, hr, lr, p⟩
  refine tM_bind (f := fun σ x h1 => if ty h1 x = true then bindR (r σ h1) fun xs h2 => f x xs h2 else .stuck) hr lr p fun F1 ι1 H1 x h1 v l hr1 lr1 r1 p1 => ?_
  split at p1
  · rename_i ex
    refine ⟨by rw [hK]; exact ht F1 ι1 h1 H1 x v hr1 r1 ex, ?_⟩
    exact tM_bind (f := fun _ xs h2 => f x xs h2) hr1 lr1 p1 fun F2 ι2 H2 xs h2 vs l2 hr2 lr2 r2 p2 => hk W F2 ι2 h2 H2 σv x xs v vs Q hr2 (VR.mono l2 _ _ r1) r2 p2
  · exact p1.elim
def isLst (h : AH) (d : D) : Bool := (getL h d).isSome
theorem ty_list : TyOk g "list" isLst := by
  intro F ι h H x u hr rv e
  unfold isLst at e
  cases q : getL h x with
  | none => rw [q] at e; cases e
  | some ds =>
    obtain ⟨a, vs, rfl, s1, s2⟩ := getL_ok hr q rv
    exact .inl ⟨rfl, vs, s1⟩
def mtAppend (x : D) (ds : List D) (h : AH) : Rv D := match listAt x h, ds with
  | some (n, xs), [d] => if xs.length < sizeLine then .ok .non (h.set n (some (.lst (xs ++ [d])))) else .stuck
  | _, _ => .stuck
theorem k_append (t : TiOk g) : MetOk g rAppend mtAppend := by
  intro W F ι h H σv x ds u vs Q hr rx rv p
  unfold mtAppend at p
  split at p
  · rename_i n xs d e1
    obtain ⟨l, ws, rfl, en, eo, q, rw'⟩ := listAt_ok hr e1 rx
    obtain ⟨v, rfl, r1⟩ := one1 rv
    split at p
    · rename_i hz
      refine ⟨l, ws, v, rfl, rfl, q, by rw [rw'.length]; exact hz, ?_⟩
      exact p F ι _ .non .refl (listAt_put t hr en eo q (rw'.append (VRs.one r1))) (by simp [VR])
    · exact p.elim
  · exact p.elim
theorem em_append (t : TiOk g) (hK : X.K = g.K) {cpos : Pos} (ho : PE X o (tE g W mo)) (ha : PA X [e] (tA g W r)) (hbase : attributeBase o "append" X.env (eval o X.env) = eval o X.env := by rfl)
    (hfew : ((backTo cpos (starEach [e] X.env)).all (fun x => !x.1) && (backToKw cpos (keywordEach [] X.env)).all (fun x => x.1.isSome)
      && decide ([e].length + ([] : List Keyword).length + (if ([] : List Keyword).isEmpty then 0 else 1) < 30)) = true := by rfl)
    (hline : (apos.endLine == cpos.line) = true := by rfl) (hs : starEach [e] X.env = (false, eval e X.env) :: starEach [] X.env := by rfl) (hplain : (backTo cpos (starEach [] X.env)).any (·.1) = false := by rfl) :
    PE X (.Call (.Attribute o "append" apos) [e] [] cpos) (tE g W (mBM isLst mtAppend mo r)) :=
  em_bm hK PySem.F.plainAttrs_list PySem.F.slot_list_append PySem.F.type_list_append mt_append (k_append t) ty_list ho ha hbase hfew hline hs hplain
/-! ### op= -/
def dIAdd (a b : D) (h : AH) : Rv D := match a, b with
  | .int i, .int j => .ok (.int (i + j)) h
  | .str x, .str y => okIf (x.length + y.length ≤ sizeLine) (.ok (.str (x ++ y)) h)
  | a, b => match listAt a h, getLs h b with
    | some (n, xs), some ys => okIf (xs.length + ys.length ≤ sizeLine) (.ok a (h.set n (some (.lst (xs ++ ys)))))
    | _, _ => .stuck
def rIAdd : R2 := fun x y H Q => rI0 (fun i j => .int (i + j)) x y H Q ∨ (∃ i j, x = .str i ∧ y = .str j ∧ i.length + j.length ≤ sizeLine ∧ Q (.str (i ++ j)) H) ∨ rExt2 x y H Q
theorem op_iadd : OpR X (inplaceOp .Add) rIAdd := iop_add.or (iop_add_str.or iop_ext)
theorem ok_iadd (t : TiOk g) : OpOk g rIAdd dIAdd := by
  intro W F ι h H σv a b v u Q hr ra rb p
  have ext : dIAdd a b h = (match listAt a h, getLs h b with
    | some (n, xs), some ys => okIf (xs.length + ys.length ≤ sizeLine) (.ok a (h.set n (some (.lst (xs ++ ys)))))
    | _, _ => .stuck) → rIAdd v u H Q := fun e => by
    rw [e] at p
    split at p
    · rename_i n xs ys e1 e2
      obtain ⟨l, vs, rfl, en, eo, q1, q2⟩ := listAt_ok hr e1 ra
      obtain ⟨m, ws, rfl, q3, q4⟩ := getL_lst hr e2 rb
      obtain ⟨hz, p⟩ := okIf_post p
      exact .inr (.inr ⟨l, m, vs, ws, rfl, rfl, q1, q3, by rw [q2.length, q4.length]; exact hz, p F ι _ _ .refl (listAt_put t hr en eo q1 (q2.append q4)) ra⟩)
    · exact p.elim
  unfold dIAdd at p ext
  split at p
  · cases ra.int'; cases rb.int'
    exact .inl ⟨_, _, rfl, rfl, fini p hr⟩
  · cases ra.str'; cases rb.str'
    obtain ⟨hz, p⟩ := okIf_post p
    exact .inr (.inl ⟨_, _, rfl, rfl, hz, fins p hr⟩)
  · rename_i n1 n2
    refine ext ?_
    split
    · exact (n1 _ _ rfl rfl).elim
    · exact (n2 _ _ rfl rfl).elim
    · rfl
end
end DV
end
section
set_option Elab.async false
set_option linter.all false
set_option maxRecDepth 100000
set_option maxHeartbeats 2000000
namespace DV
open PySem L2 PyProof.Rows PySem.Spec LamX RZ

section
variable {X : Cx} {g : G} {W : WX} {F : Kn} {ι : List Addr} {h : AH} {H : Hp} {e e2 : Expr} {r : MA} {p pos tpos : Pos} {elts : List Expr} {kk : Nat}
/-! ### enumerate -/
def itEn (d : D) : IT := fun i h => match getS h d with
  | some ds => match ds[i]? with | some y => .go (.tup [.int i, y]) | none => .stop
  | none => .bad
def enIt (d : D) (h : AH) : Rv IT := match getS h d with | some _ => .ok (itEn d) h | none => .stuck
def miEnum (r : MA) : MI := fun σ h => bindR (r σ h) fun xs h1 => match xs with | [x] => enIt x h1 | _ => .stuck
theorem new_pair (t : TiOk g) {F' : Kn} {ι' : List Addr} {d1 d2 : D} {v1 v2 : V} {T : Addr} (hr : HR g F' ι' h H) (hT : H T = none) (r1 : VR g F' ι' d1 v1) (r2 : VR g F' ι' d2 v2) :
    ∃ F2, Le F' ι' F2 ι' ∧ HR g F2 ι' h (upd H T (.tup [v1, v2])) ∧ VR g F2 ι' (.tup [d1, d2]) (.ref T) := by
  obtain ⟨hr2, l2⟩ := hr.newF t hT (.tup [v1, v2])
  refine ⟨_, l2, hr2, ?_⟩
  simp only [VR, VRs]
  exact ⟨T, _, rfl, .inl add_same, v1, _, rfl, VR.mono l2 _ _ r1, v2, _, rfl, VR.mono l2 _ _ r2, rfl⟩
theorem jr_enL (t : TiOk g) {d : D} {a : Addr} (rv : VR g F ι d (.ref a)) (hd : ∀ h, getS h d = getL h d) : JR g F ι (itEn d) (Ite g.K a) := by
  intro F' ι' i h H l hr
  unfold itEn
  rw [hd]
  cases e : getL h d with
  | none => trivial
  | some ds =>
    obtain ⟨b, vs, z, hs, q2⟩ := getL_ok hr e (VR.monoF l _ _ rv)
    cases z
    dsimp only
    cases e : ds[i]? with
    | none => exact ⟨vs, hs, by rw [q2.length]; exact List.getElem?_eq_none_iff.mp e⟩
    | some y =>
      obtain ⟨v, z1, z2⟩ := q2.get e
      refine ⟨⟨vs, v, hs, z1⟩, fun x H' hy => ?_⟩
      obtain ⟨T, w, rfl, hT, rfl, hw⟩ := hy
      have z := hw vs hs
      rw [z1] at z
      cases z
      exact new_pair t hr hT (by simp [VR]) z2
theorem jr_enT (t : TiOk g) {ds : List D} {a : Addr} (rv : VR g F ι (.tup ds) (.ref a)) : JR g F ι (itEn (.tup ds)) (IteT g.K a) := by
  intro F' ι' i h H l hr
  show match (match ds[i]? with | some y => Stp.go (.tup [.int i, y]) | none => .stop) with | .stop => _ | .go d => _ | .bad => True
  obtain ⟨b, vs, z, hs, q2⟩ := tup_ok hr (VR.monoF l _ _ rv)
  cases z
  cases e : ds[i]? with
  | none => exact ⟨vs, hs, by rw [q2.length]; exact List.getElem?_eq_none_iff.mp e⟩
  | some y =>
    obtain ⟨v, z1, z2⟩ := q2.get e
    refine ⟨⟨vs, v, hs, z1⟩, fun x H' hy => ?_⟩
    obtain ⟨T, w, rfl, hT, rfl, hw⟩ := hy
    have z := hw vs hs
    rw [z1] at z
    cases z
    exact new_pair t hr hT (by simp [VR]) z2
theorem im_enum (t : TiOk g) (hK : X.K = g.K) (hg : Gl X "enumerate") (hm : X.mg "enumerate" = none) (ha : PA X [e] (tA g W r)) (hs : starEach [e] X.env = [(false, eval e X.env)] := by rfl) :
    PI X (.Tuple elts kk tpos) (.Call (.Name "enumerate" p) [e] [] pos) (tI g W (miEnum r)) := by
  refine PI_weak (pi_enumA hg hm ha hs) ?_
  rintro σv H R ⟨F, ι, σ, h, hr, lr, p⟩
  refine tM_bind (f := fun _ xs h1 => match xs with | [x] => enIt x h1 | _ => .stuck) hr lr p fun F1 ι1 H1 xs h1 vs l hr1 lr1 r1 p1 => ?_
  split at p1
  · rename_i x
    obtain ⟨v, rfl, rx⟩ := one1 r1
    unfold enIt at p1
    rw [hK]
    have big : (∀ h, getS h x = getL h x) → ∃ a, [v] = [V.ref a] ∧ ((∃ xs, SqL g.K H1 a xs ∧ R (Ite g.K a) H1) ∨ ∃ xs, SqT g.K H1 a xs ∧ R (IteT g.K a) H1) := fun hd => by
      rw [hd] at p1
      split at p1
      · rename_i ds e1
        obtain ⟨a, vs, rfl, q1, q2⟩ := getL_ok hr1 e1 rx
        exact ⟨a, rfl, .inl ⟨vs, q1, p1 F1 ι1 H1 _ .refl hr1 (jr_enL t rx hd)⟩⟩
      · exact p1.elim
    cases x with
    | tup ds =>
      obtain ⟨a, vs, rfl, q1, q2⟩ := tup_ok hr1 rx
      exact ⟨a, rfl, .inr ⟨vs, q1, p1 F1 ι1 H1 _ .refl hr1 (jr_enT t rx)⟩⟩
    | _ => exact big fun _ => rfl
  · exact p1.elim
/-! ### zip of two lists or two tuples -/
def itZp (d e : D) : IT := fun i h => match getS h d, getS h e with
  | some xs, some ys => match xs[i]?, ys[i]? with | some x, some y => .go (.tup [x, y]) | _, _ => .stop
  | _, _ => .bad
def zpIt (d e : D) (h : AH) : Rv IT := match d, e with
  | .tup _, .tup _ => .ok (itZp d e) h
  | .tup _, _ => .stuck
  | _, .tup _ => .stuck
  | d, e => match getL h d, getL h e with | some _, some _ => .ok (itZp d e) h | _, _ => .stuck
def miZip (r : MA) : MI := fun σ h => bindR (r σ h) fun xs h1 => match xs with | [x, y] => zpIt x y h1 | _ => .stuck
theorem jr_zpL (t : TiOk g) {d d' : D} {a b : Addr} (rv : VR g F ι d (.ref a)) (rv' : VR g F ι d' (.ref b)) (hd : ∀ h, getS h d = getL h d) (hd' : ∀ h, getS h d' = getL h d') : JR g F ι (itZp d d') (Itz g.K a b) := by
  intro F' ι' i h H l hr
  unfold itZp
  rw [hd, hd']
  cases e : getL h d with
  | none => trivial
  | some xs =>
    cases e' : getL h d' with
    | none => trivial
    | some ys =>
      obtain ⟨c, vs, z, hs, q2⟩ := getL_ok hr e (VR.monoF l _ _ rv)
      cases z
      obtain ⟨c, ws, z, hs', q2'⟩ := getL_ok hr e' (VR.monoF l _ _ rv')
      cases z
      dsimp only
      cases f : xs[i]? with
      | none => exact ⟨vs, ws, hs, hs', .inl (by rw [q2.length]; exact List.getElem?_eq_none_iff.mp f)⟩
      | some x =>
        cases f' : ys[i]? with
        | none => exact ⟨vs, ws, hs, hs', .inr (by rw [q2'.length]; exact List.getElem?_eq_none_iff.mp f')⟩
        | some y =>
          obtain ⟨v, z1, z2⟩ := q2.get f
          obtain ⟨w, z3, z4⟩ := q2'.get f'
          refine ⟨⟨vs, ws, v, w, hs, hs', z1, z3⟩, fun x H' hy => ?_⟩
          obtain ⟨T, v', w', rfl, hT, rfl, hv, hw⟩ := hy
          have z := hv vs hs
          rw [z1] at z
          cases z
          have z := hw ws hs'
          rw [z3] at z
          cases z
          exact new_pair t hr hT z2 z4
theorem jr_zpT (t : TiOk g) {xs ys : List D} {a b : Addr} (rv : VR g F ι (.tup xs) (.ref a)) (rv' : VR g F ι (.tup ys) (.ref b)) : JR g F ι (itZp (.tup xs) (.tup ys)) (ItzT g.K a b) := by
  intro F' ι' i h H l hr
  show match (match xs[i]?, ys[i]? with | some x, some y => Stp.go (.tup [x, y]) | _, _ => .stop) with | .stop => _ | .go d => _ | .bad => True
  obtain ⟨c, vs, z, hs, q2⟩ := tup_ok hr (VR.monoF l _ _ rv)
  cases z
  obtain ⟨c, ws, z, hs', q2'⟩ := tup_ok hr (VR.monoF l _ _ rv')
  cases z
  cases f : xs[i]? with
  | none => exact ⟨vs, ws, hs, hs', .inl (by rw [q2.length]; exact List.getElem?_eq_none_iff.mp f)⟩
  | some x =>
    cases f' : ys[i]? with
    | none => exact ⟨vs, ws, hs, hs', .inr (by rw [q2'.length]; exact List.getElem?_eq_none_iff.mp f')⟩
    | some y =>
      obtain ⟨v, z1, z2⟩ := q2.get f
      obtain ⟨w, z3, z4⟩ := q2'.get f'
      refine ⟨⟨vs, ws, v, w, hs, hs', z1, z3⟩, fun x H' hy => ?_⟩
      obtain ⟨T, v', w', rfl, hT, rfl, hv, hw⟩ := hy
      have z := hv vs hs
      rw [z1] at z
      cases z
      have z := hw ws hs'
      rw [z3] at z
      cases z
      exact new_pair t hr hT z2 z4
theorem im_zip (t : TiOk g) (hK : X.K = g.K) (hg : Gl X "zip") (hm : X.mg "zip" = none) (ha : PA X [e, e2] (tA g W r)) (hs : starEach [e, e2] X.env = (false, eval e X.env) :: starEach [e2] X.env := by rfl) (hpl : (backTo pos (starEach [e2] X.env)).any (·.1) = false := by rfl) :
    PI X (.Tuple elts kk tpos) (.Call (.Name "zip" p) [e, e2] [] pos) (tI g W (miZip r)) := by
  refine PI_weak (pi_zipA hg hm ha hs hpl) ?_
  rintro σv H R ⟨F, ι, σ, h, hr, lr, p⟩
  refine tM_bind (f := fun _ xs h1 => match xs with | [x, y] => zpIt x y h1 | _ => .stuck) hr lr p fun F1 ι1 H1 xs h1 vs l hr1 lr1 r1 p1 => ?_
  split at p1
  · rename_i x y
    obtain ⟨v, u, rfl, rx, ry⟩ := two2 r1
    rw [hK]
    have big : (∀ h, getS h x = getL h x) → (∀ h, getS h y = getL h y) → zpIt x y h1 = (match getL h1 x, getL h1 y with | some _, some _ => Rv.ok (itZp x y) h1 | _, _ => .stuck) →
        ∃ a b xs ys, [v, u] = [V.ref a, V.ref b] ∧ ((SqL g.K H1 a xs ∧ SqL g.K H1 b ys ∧ R (Itz g.K a b) H1) ∨ (SqT g.K H1 a xs ∧ SqT g.K H1 b ys ∧ R (ItzT g.K a b) H1)) := fun hx hy hz => by
      rw [hz] at p1
      split at p1
      · rename_i xs ys e1 e2
        obtain ⟨a, vs, rfl, q1, q2⟩ := getL_ok hr1 e1 rx
        obtain ⟨b, ws, rfl, q3, q4⟩ := getL_ok hr1 e2 ry
        exact ⟨a, b, vs, ws, rfl, .inl ⟨q1, q3, p1 F1 ι1 H1 _ .refl hr1 (jr_zpL t rx ry hx hy)⟩⟩
      · exact p1.elim
    cases x with
    | tup xs =>
      cases y with
      | tup ys =>
        obtain ⟨a, vs, rfl, q1, q2⟩ := tup_ok hr1 rx
        obtain ⟨b, ws, rfl, q3, q4⟩ := tup_ok hr1 ry
        exact ⟨a, b, vs, ws, rfl, .inr ⟨q1, q3, p1 F1 ι1 H1 _ .refl hr1 (jr_zpT t rx ry)⟩⟩
      | _ => exact p1.elim
    | _ => cases y with
      | tup ys => exact p1.elim
      | _ => exact big (fun _ => rfl) (fun _ => rfl) rfl
  · exact p1.elim
end
/-! ### the tables are kept -/
theorem tabs_ti {g : G} {T : List (Addr × Str)} (h : g.Ti = Tabs T) : TiOk g := by
  refine ⟨fun H a o ht hw => ?_⟩
  rw [h] at ht ⊢
  intro q hq
  obtain ⟨ps, h1, h2, h3⟩ := ht q hq
  have ne : ∀ b u, H b = some u → ¬ Wr (some u) → b ≠ a := fun b u e n z => by
    rw [z] at e
    rcases hw with hw | hw
    · rw [hw] at e; cases e
    · rw [e] at hw; exact n hw
  refine ⟨ps, by rw [upd_ne (ne _ _ h1 fun z => z)]; exact h1, h2, fun pos cv hc => ?_⟩
  obtain ⟨c, e1, e2⟩ := h3 pos cv hc
  exact ⟨c, e1, by rw [upd_ne (ne _ _ e2 fun z => z)]; exact e2⟩
end DV
end
section
set_option Elab.async false
set_option linter.all false
set_option maxRecDepth 100000
set_option maxHeartbeats 2000000
namespace DV
open PySem L2 PyProof.Rows PySem.Spec LamX

/-! ### what a law's module has -/
structure Md where
  fa : List He.Fa
  fn : List He.DefD
  /-- the defs that hold generator expressions or lambdas, their code objects' names -/
  tl : List (He.Defn × Str)
  cs : List Str
  xs : List Str
def Md.tf (M : Md) : List He.Defn := M.tl.map (·.1)
def Md.ex (M : Md) (K : PySem.W.Frag) : Bool := decide ((M.tf.map fun p => (He.cT K p).2).Nodup)
def Md.T (M : Md) (K : PySem.W.Frag) : List (Addr × Str) := M.tl.map fun q => ((He.cT K q.1).2, q.2)
def Md.g (M : Md) (K : PySem.W.Frag) : G := { K := K, cls := fun i => He.ga K (M.cs.getD i Str.empty), exc := fun i => He.ga K (M.xs.getD i Str.empty), Cl := fun _ _ _ _ _ => False, Ti := Tabs (M.T K) }
theorem Md.ti (M : Md) (K : PySem.W.Frag) : TiOk (M.g K) := tabs_ti rfl
structure EV (M : Md) (w : World) (K : PySem.W.Frag) (mg : Str → Option Value) (base h : Heap) : Prop where
  c : He.SaysX M.fa M.fn [] M.tf M.ex w h K
  X : K.In h
  G : h.Ns mainGlobals mg
  TB : ∀ p ∈ M.tf.map (He.cT K), TabB base mg p.1 p.2
section
variable {M : Md} {w : World} {K : PySem.W.Frag} {mg : Str → Option Value} {base h : Heap}
theorem EV.fact (E : EV M w K mg base h) (i : Nat) {f : He.Fa} (e : M.fa[i]? = some f := by rfl) : f.ok K = true := E.c.t.d.fact i e
theorem EV.glo (E : EV M w K mg base h) (i : Nat) {x : Str} (e : M.fa[i]? = some (.glo x) := by rfl) : mg x = some (.ref (He.ga K x)) := He.glo_ok E.X E.G (E.fact i e)
theorem EV.free (E : EV M w K mg base h) (i : Nat) {x : Str} (e : M.fa[i]? = some (.free x) := by rfl) : mg x = none := He.free_ok E.X E.G (E.fact i e)
theorem EV.int (E : EV M w K mg base h) (i : Nat) {x : Str} {k : Int} (e : M.fa[i]? = some (.int x k) := by rfl) : ∃ t, mg x = some (.int k t) := He.int_ok E.X E.G (E.fact i e)
theorem EV.cls (E : EV M w K mg base h) (i : Nat) {x : Str} (e : M.fa[i]? = some (.cls x) := by rfl) : Cls K (He.ga K x) := He.cls_ok (E.fact i e)
theorem EV.noat (E : EV M w K mg base h) (i : Nat) {x f : Str} (e : M.fa[i]? = some (.noat x f) := by rfl) : NoAttr K (He.ga K x) f := He.noat_ok (E.fact i e)
theorem EV.meth (E : EV M w K mg base h) (i : Nat) {x m : Str} (e : M.fa[i]? = some (.meth x m) := by rfl) : Meth K (He.ga K x) m (He.ma K (He.ga K x) m) := He.meth_ok (E.fact i e)
theorem EV.mkr (E : EV M w K mg base h) (i : Nat) {x : Str} (e : M.fa[i]? = some (.mkr x) := by rfl) : Mk K (He.ga K x) (He.ma K (He.ga K x) "__init__") := He.mkr_ok (E.fact i e)
theorem EV.keep (E : EV M w K mg base h) (i : Nat) {x : Str} (e : M.fa[i]? = some (.keep x) := by rfl) : PySem.W.keepIn K (.ref (He.ga K x)) = true := He.keep_ok (E.fact i e)
theorem EV.exc (E : EV M w K mg base h) (i : Nat) {x : Str} (e : M.fa[i]? = some (.exc x) := by rfl) : PySem.W.excIn K (He.ga K x) He.veBase "ValueError.__new__" = true ∧ PySem.W.keepIn K (.ref (He.ga K x)) = true ∧ PySem.W.subIn K (.ref (He.ga K x)) (.type "BaseException") = some true ∧ PySem.W.typeIn K (.ref (He.ga K x)) = some (.type "type") := He.exc_ok (E.fact i e)
/-- a def keeps its promise -/
def Ok (M : Md) (P : Program) (w : World) (K : PySem.W.Frag) (mg : Str → Option Value) (base : Heap) (k : Nat) (d : He.DefD) (ps : List Str) (Fm : FM) : Prop :=
  ∃ fd, FunD K d.name d.qual d.params d.body d.scope (d.dvs K) (d.kws K) (He.fAd K d.at_) fd ∧ FnOk P w K mg base (L2.CX P w) k (He.fAd K d.at_) fd ps (spF (M.g K) ps.length Fm)
theorem EV.ok (E : EV M w K mg base h) {P : Program} (i : Nat) {d : He.DefD} {N ps : List Str} {k : Nat} {ms : MS} (e : M.fn[i]? = some d) (S : FnScope N ps d.scope)
    (hbody : ∀ (cdv : Value) (A : Around) (outer : List Env) (s : Shared) (H : Hp) (E : XK), cdv = .ref (He.codeOf K d.at_) → Room k (cxOf (L2.CX P w) P w K mg base N d.qual d.scope (He.fAd K d.at_) cdv A outer s H E).A →
      Takes (cxOf (L2.CX P w) P w K mg base N d.qual d.scope (He.fAd K d.at_) cdv A outer s H E) (WF E) → PassesOwn (model P w) (cxOf (L2.CX P w) P w K mg base N d.qual d.scope (He.fAd K d.at_) cdv A outer s H E).A (cxOf (L2.CX P w) P w K mg base N d.qual d.scope (He.fAd K d.at_) cdv A outer s H E).env (cxOf (L2.CX P w) P w K mg base N d.qual d.scope (He.fAd K d.at_) cdv A outer s H E).xe →
      PSs (cxOf (L2.CX P w) P w K mg base N d.qual d.scope (He.fAd K d.at_) cdv A outer s H E) d.body (tS (M.g K) (WF E) ms)) :
    Ok M P w K mg base (k + 1) d ps (runF N.length ms) := by
  obtain ⟨fd, F⟩ := E.c.t.d.def_ i e
  exact ⟨fd, F, fm_of F S hbody⟩
/-- the code object and the table of a def that holds generator expressions -/
theorem EV.tab (E : EV M w K mg base h) (i : Nat) {q : He.Defn × Str} (e : M.tl[i]? = some q) : TabB base mg (He.codeOf K q.1) (He.tabOf K (He.codeOf K q.1)) ∧ (He.tabOf K (He.codeOf K q.1), q.2) ∈ M.T K ∧ ∀ p ∈ M.T K, p.1 = He.tabOf K (He.codeOf K q.1) → p.2 = q.2 := by
  have hq : q ∈ M.tl := List.mem_of_getElem? e
  refine ⟨E.TB (He.cT K q.1) (List.mem_map.mpr ⟨q.1, List.mem_map.mpr ⟨q, hq, rfl⟩, rfl⟩), List.mem_map.mpr ⟨q, hq, rfl⟩, fun p hp hpe => ?_⟩
  obtain ⟨q', hq', rfl⟩ := List.mem_map.mp hp
  have nd : (M.tf.map fun p => (He.cT K p).2).Nodup := of_decide_eq_true E.c.more
  have nd2 : (M.tl.map fun q => (He.cT K q.1).2).Nodup := by
    have e : (M.tf.map fun p => (He.cT K p).2) = M.tl.map fun q => (He.cT K q.1).2 := by unfold Md.tf; rw [List.map_map]; rfl
    rw [← e]; exact nd
  have inj : ∀ (l : List (He.Defn × Str)), (l.map fun q => (He.cT K q.1).2).Nodup → ∀ a ∈ l, ∀ b ∈ l, (He.cT K a.1).2 = (He.cT K b.1).2 → a = b := by
    intro l
    induction l with
    | nil => intro _ a ha; cases ha
    | cons x l ih =>
      intro hn a ha b hb hab
      obtain ⟨n1, n2⟩ := List.nodup_cons.mp hn
      rcases List.mem_cons.mp ha with rfl | ha' <;> rcases List.mem_cons.mp hb with rfl | hb'
      · rfl
      · exact (n1 (List.mem_map.mpr ⟨b, hb', hab.symm⟩)).elim
      · exact (n1 (List.mem_map.mpr ⟨a, ha', hab⟩)).elim
      · exact ih n2 a ha' b hb' hab
  rw [inj M.tl nd2 q' hq' q hq hpe]
/-- the law's end -/
theorem EV.law {l : PySem.W.OpenLaw} {n k : Nat} {d : He.DefD} {Fm : FM} {x : Str} {fa : Addr} (c : He.SaysX M.fa M.fn [] M.tf M.ex w h K) (X : K.In h) (G : h.Ns mainGlobals mg) (hfa : mg d.name = some (.ref fa)) (hd : He.fAd K d.at_ = He.ga K d.name) (hg : mg d.name = some (.ref (He.ga K d.name)))
    (hdf : ∀ K, d.dvs K = []) (hkw : ∀ K, d.kws K = []) (hps : ∀ (kV doc pm : Value) (an : Option Addr) (cdv ct : Value) (us : List Value), us.length = [x].length → bindArgs (PySem.W.fnOf d.name d.qual d.params d.body d.scope .none kV doc pm an cdv ct) ⟨us, []⟩ = pure ([x].zip us))
    (i : Nat) (hi : M.fn[i]? = some d) (ok : ∀ base : Heap, EV M w K mg base h → Ok M l.prog w K mg base k d [x] Fm) (pl : Plain n Fm) : LawAtS l w K (L2.CX l.prog w) k n x mg fa h := by
  have e : fa = He.ga K d.name := by
    rw [hg] at hfa
    cases hfa
    rfl
  subst e
  obtain ⟨fd, F⟩ := c.t.d.def_ i hi
  have F0 := F
  rw [hdf, hkw] at F0
  have b := FunD.bindsA (ps := [x]) F0 hps
  refine ⟨fd, M.tf.map (He.cT K), spF (M.g K) 1 Fm, fun p hp => ?_, fun p hp => ?_, fun p hp => ?_, fun s u => b s [u] rfl, fun H a ns h1 h2 h3 h4 => spF_law pl h1 h2 ?_ h4, fun base hb hns TB => ?_⟩
  · obtain ⟨q, hq, rfl⟩ := List.mem_map.mp hp
    exact c.empty q hq
  · obtain ⟨q, hq, rfl⟩ := List.mem_map.mp hp
    exact c.out q hq
  · obtain ⟨q, hq, rfl⟩ := List.mem_map.mp hp
    exact PySem.W.codeHd_of_K X (c.hd q hq)
  · intro q hq
    obtain ⟨z, hz, rfl⟩ := List.mem_map.mp hq
    exact TabS.nil (h3 (He.cT K z.1) (List.mem_map.mpr ⟨z.1, List.mem_map.mpr ⟨z, hz, rfl⟩, rfl⟩))
  · obtain ⟨fd', F', O⟩ := ok base ⟨c, X, G, TB⟩
    have ef : fd' = fd := by
      obtain ⟨_, _, _, _, _, _, _, _, _, _, _, l1, _⟩ := F.ex
      obtain ⟨_, _, _, _, _, _, _, _, _, _, _, l2, _⟩ := F'.ex
      rw [l1] at l2
      have z := congrArg Obj.data (Option.some.inj l2)
      injection z with z
      exact z.symm
    subst ef
    rw [hd] at O
    exact O
end
end DV
namespace DV
open PySem L2
theorem units65 {k : Nat} {A : Around} (r : Room k A) : A.units + 65 < cLine := by have := r.un; omega
def dMulI : D → D → AH → Rv D := dInt CMul fun i j => .int (i * j)
end DV
end
section
set_option Elab.async false
set_option linter.all false
set_option maxRecDepth 100000
set_option maxHeartbeats 2000000
namespace DV
open PySem L2 PyProof.Rows PySem.Spec LamX

/-! ### lambdas as values -/
/-- the function object o stands at f -/
def LamO (f : Addr) (o : Obj) : HO := .ext fun h => h.get? f = some o
theorem lamO_nt (f : Addr) (o : Obj) : ∀ ps, LamO f o ≠ HO.tbl ps := fun ps z => by unfold LamO at z; cases z
theorem codeO_nt (c : Addr) (q : Str) : ∀ ps, CodeO c q ≠ HO.tbl ps := fun ps => codeO_ne ps
theorem lamO_ok {P : Program} {w : World} {H : Hp} {h : Heap} {f : Addr} {o : Obj} (e : h.get? f = some o) : ObjOk P w H h f (LamO f o) := ⟨e, ⟨o, e⟩, fun h1 h2 a st => st _ a⟩
section
variable {X : Cx} {pins : List (Addr × Obj)} {σ : L2.St} {H : Hp} {s : Shared}
/-- the lambda is made, its function object known from now on -/
theorem lam_mk {T : List (Addr × Str)} {c P : Addr} {params : Arguments} {body : Expr} {scope : Scope} {pos : Pos} {E : Value → Shared → Prop} {Q : Value → Shared → Prop} (I : L2.Inv X pins σ H s) (TB : TabB X.base X.mg c P) (hcode : X.env.code = .ref c)
    (hm : (P, X.env.qual ++ "<lambda>") ∈ T) (hu : ∀ p ∈ T, p.1 = P → p.2 = X.env.qual ++ "<lambda>") (hT : Tabs T H) (hdef : defaultsOf params X.env = ([], [])) (hfree : ∀ y ∈ scope.names, y.2 = .free → ∃ c, X.env.cells.lookup y.1 = some c)
    (h : ∀ (f c' : Addr) (pm ctv : Value) (H1 : Hp) (s' : Shared), L2.Inv X pins σ (upd H1 f (LamO f (PySem.W.kla_obj "<lambda>" (X.env.qual ++ "<lambda>") params body scope (cloFrom X.env.cells scope.names []) pm c' ctv))) s' → ExtN H H1 → Tabs T H1 → H1 f = none →
      H1 c' = some (CodeO c' (X.env.qual ++ "<lambda>")) → Q (.ref f) s') :
    wpAny (model X.prog X.w) X.A (eval (.Lambda params body scope pos) X.env) Q E s := by
  obtain ⟨ps, hP, ht, ha⟩ := hT _ hm
  refine PySem.W.kla_eval hdef ?_
  have bP : s.heap.BuiltinsAt X.mg P := TB.bm.keeps I.bk
  have hP' : s.heap.get? P = some { cls := .none, data := .fields ps } := I.hok P _ hP
  have fin : ∀ (c' : Addr) (ctv : Value) (H1 : Hp) (h1 : Heap) (tk : Nat), L2.Inv X pins σ H1 { s with heap := h1, toks := tk } → ExtN H H1 → Tabs T H1 → H1 c' = some (CodeO c' (X.env.qual ++ "<lambda>")) →
      Q (.ref h1.objs.size) { s with heap := h1.push (PySem.W.kla_obj "<lambda>" (X.env.qual ++ "<lambda>") params body scope (cloFrom X.env.cells scope.names []) ((X.mg "__name__").getD .none) c' ctv), toks := tk } := by
    intro c' ctv H1 h1 tk I1 hE hT1 hc'
    refine h h1.objs.size c' ((X.mg "__name__").getD .none) ctv H1 _ (I1.laid (t' := tk) (fun b o e => Heap.get?_push_of_some _ e) (Nat.le_refl _) (lamO_ok (Heap.get?_push_size _ rfl))) hE hT1 (I1.hok.fresh (Nat.le_refl _)) hc'
  cases hc : codeAmong pos ps.toList with
  | none =>
    refine PySem.W.kla_makeFunction (mg := X.mg) (c := c) (P := P) (ps := ps) (closure_ok hfree) I.ok.glob (I.mod.glob.keeps I.bk) hcode (TB.code.keeps I.bk) hP' ht hc TB.gP bP fun c' ctv h' tk hx hge hlt hrec htb => ?_
    obtain ⟨c2, oc, vs, t, e2, hoc, hd, hv⟩ := hrec
    cases e2
    have nC : H c' = none := I.hok.fresh hge
    have I1 := inv_table (t' := tk) (more := #[rawInt pos.line, rawInt pos.col, .ref c']) (h' := h') I hP (fun b o hb e => hx b o hb e) htb hge ⟨oc, vs, t, hoc, hd, hv⟩
    have hE : ExtN H (upd (upd H P (.tbl (ps ++ #[rawInt pos.line, rawInt pos.col, .ref c']))) c' (CodeO c' (X.env.qual ++ "<lambda>"))) := fun b o e n => by
      rw [upd_ne (ne_of_none e nC), upd_ne (fun z => n ps (Option.some.inj (e.symm.trans (by rw [z]; exact hP))))]
      exact e
    have eL : (ps ++ #[rawInt pos.line, rawInt pos.col, .ref c']).toList = ps.toList ++ [rawInt pos.line, rawInt pos.col, .ref c'] := by simp
    refine fin c' ctv _ h' tk I1 hE (fun p hp => ?_) upd_same
    by_cases hb : p.1 = P
    · rw [hu p hp hb, hb]
      refine ⟨_, by rw [upd_ne (ne_of_none hP nC), upd_same], by rw [eL]; exact PySem.TriplesOk_snoc _ _ _ _ ht, fun p' cv hcv => ?_⟩
      rw [eL] at hcv
      rcases among_app _ ht hcv with z | z
      · obtain ⟨c0, e1, e2⟩ := ha p' cv z
        exact ⟨c0, e1, hE _ _ e2 codeO_ne⟩
      · exact ⟨c', z, upd_same⟩
    · obtain ⟨ps', a1, a2, a3⟩ := hT p hp
      refine ⟨ps', by rw [upd_ne (ne_of_none a1 nC), upd_ne hb]; exact a1, a2, fun p' cv hcv => ?_⟩
      obtain ⟨c0, e1, e2⟩ := a3 p' cv hcv
      exact ⟨c0, e1, hE _ _ e2 codeO_ne⟩
  | some cv =>
    obtain ⟨c', e, hco⟩ := ha pos cv hc
    subst e
    refine PySem.W.kla_makeFunctionHit (mg := X.mg) (c := c) (P := P) (ps := ps) (closure_ok hfree) I.ok.glob (I.mod.glob.keeps I.bk) hcode (TB.code.keeps I.bk) hP' ht hc bP fun ctv h' tk hx hsz => ?_
    exact fin c' ctv H h' tk (I.kept (t' := tk) hx) (ExtN.refl H) hT hco
end
section
variable {g : G} {F : Kn} {ι : List Addr} {h : AH} {H : Hp}
/-- what stands is known from now on -/
theorem HR.learn (r : HR g F ι h H) {a : Addr} {φ : Heap → Prop} (e : H a = some (.ext φ)) : ∃ F', HR g F' ι h H ∧ Le F ι F' ι ∧ F' a = some (.ext φ) := by
  cases q : F a with
  | some u =>
    refine ⟨F, r, .refl, ?_⟩
    rcases r.fr a u q with ⟨z, _⟩ | ⟨ws, ob, rfl, z⟩
    · rw [e] at z
      rw [q, ← z]
    · rw [e] at z; cases z
  | none =>
    have l : Le F ι (F.add a (.ext φ)) ι := Le.add q
    refine ⟨F.add a (.ext φ), ⟨fun b u z => ?_, fun n o z => ?_, r.inj, r.len, r.ti, fun p hp => ?_, r.pt⟩, l, add_same⟩
    · by_cases hb : b = a
      · subst hb
        rw [add_same] at z
        cases z
        exact .inl ⟨e, fun ps z => by cases z⟩
      · rw [add_ne hb] at z
        exact r.fr b u z
    · obtain ⟨b, x, e1, e2, e3, e4⟩ := r.hp n o z
      have hb : b ≠ a := by
        rintro rfl
        rw [e] at e2
        cases e2
        cases o with
        | lst ds => obtain ⟨vs, z, _⟩ := e3; cases z
        | dct ds => obtain ⟨vs, z, _⟩ := e3; cases z
        | lkd ds => obtain ⟨ob, vs, z, _⟩ := e3; cases z
        | ins c ds => obtain ⟨dx, vs, z, _⟩ := e3; cases z
      exact ⟨b, x, e1, e2, e3.mono l, by rw [add_ne hb]; exact e4⟩
    · obtain ⟨p1, p2, p3⟩ := r.pv p hp
      have hb : p.1 ≠ a := by
        intro z
        obtain ⟨xs, hx⟩ := r.pt p hp
        rw [z, e, hx] at p1
        cases p1
      exact ⟨p1, by rw [add_ne hb]; exact p2, p3⟩
/-! closures: a layer's G with them -/
abbrev LamT : Type := Arguments × Expr × Scope
def G.cl (g : G) (X : Cx) (tab : List LamT) : G := { g with Cl := fun k a o c u => ∃ (e : LamT) (pm ctv : Value), tab[k]? = some e ∧ o = LamO a (PySem.W.kla_obj "<lambda>" (X.env.qual ++ "<lambda>") e.1 e.2.1 e.2.2 (cloFrom X.env.cells e.2.2.names []) pm c ctv) ∧ u = CodeO c (X.env.qual ++ "<lambda>") }
mutual
def nCl : D → Bool
  | .tup ds => nCls ds
  | .lst ds => nCls ds
  | .dct kvs => nClk kvs
  | .obj _ fs => nClf fs
  | .clo _ => false
  | _ => true
def nCls : List D → Bool
  | [] => true
  | d :: ds => nCl d && nCls ds
def nClk : List (Key × D) → Bool
  | [] => true
  | (_, d) :: ds => nCl d && nClk ds
def nClf : List (Str × D) → Bool
  | [] => true
  | (_, d) :: ds => nCl d && nClf ds
end
def nClO : O → Bool
  | .lst ds => nCls ds
  | .dct ds => nClk ds
  | .lkd ds => nClk ds
  | .ins _ fs => nClf fs
def nClH : AH → Bool
  | [] => true
  | some o :: r => nClO o && nClH r
  | none :: r => nClH r
variable {X : Cx} {tab : List LamT}
mutual
theorem VR.toCl (hn : ∀ k a o c u, ¬ g.Cl k a o c u) : ∀ (d : D) (v : V), VR g F ι d v → VR (g.cl X tab) F ι d v
  | .non, v, h => by simpa only [VR] using h
  | .bl b, v, h => by simpa only [VR] using h
  | .int i, v, h => by simpa only [VR] using h
  | .str x, v, h => by simpa only [VR] using h
  | .tup ds, v, h => by
    simp only [VR] at h ⊢
    obtain ⟨a, vs, e, t, r⟩ := h
    exact ⟨a, vs, e, t, VRs.toCl hn ds vs r⟩
  | .lst ds, v, h => by
    simp only [VR] at h ⊢
    obtain ⟨a, vs, e, t, r⟩ := h
    exact ⟨a, vs, e, t, VRs.toCl hn ds vs r⟩
  | .dct kvs, v, h => by
    simp only [VR] at h ⊢
    obtain ⟨a, vs, e, t, r⟩ := h
    exact ⟨a, vs, e, t, VRk.toCl hn kvs vs r⟩
  | .obj c fs, v, h => by
    simp only [VR] at h ⊢
    obtain ⟨a, dx, vs, e, t, r⟩ := h
    exact ⟨a, dx, vs, e, t, VRf.toCl hn fs vs r⟩
  | .ref n, v, h => by simpa only [VR] using h
  | .clo k, v, h => by
    simp only [VR] at h
    obtain ⟨a, o, c, u, e, t, t2, q⟩ := h
    exact (hn _ _ _ _ _ q).elim
  | .scr ns, v, h => by
    simp only [VR] at h ⊢
    exact h
theorem VRs.toCl (hn : ∀ k a o c u, ¬ g.Cl k a o c u) : ∀ (d : List D) (v : List V), VRs g F ι d v → VRs (g.cl X tab) F ι d v
  | [], v, h => by simpa only [VRs] using h
  | d :: ds, v, h => by
    simp only [VRs] at h ⊢
    obtain ⟨x, ws, e, r, rs⟩ := h
    exact ⟨x, ws, e, VR.toCl hn d x r, VRs.toCl hn ds ws rs⟩
theorem VRk.toCl (hn : ∀ k a o c u, ¬ g.Cl k a o c u) : ∀ (d : List (Key × D)) (v : List (Key × V)), VRk g F ι d v → VRk (g.cl X tab) F ι d v
  | [], v, h => by simpa only [VRk] using h
  | (k, d) :: ds, v, h => by
    simp only [VRk] at h ⊢
    obtain ⟨x, ws, e, r, rs⟩ := h
    exact ⟨x, ws, e, VR.toCl hn d x r, VRk.toCl hn ds ws rs⟩
theorem VRf.toCl (hn : ∀ k a o c u, ¬ g.Cl k a o c u) : ∀ (d : List (Str × D)) (v : List (Str × V)), VRf g F ι d v → VRf (g.cl X tab) F ι d v
  | [], v, h => by simpa only [VRf] using h
  | (k, d) :: ds, v, h => by
    simp only [VRf] at h ⊢
    obtain ⟨x, ws, e, r, rs⟩ := h
    exact ⟨x, ws, e, VR.toCl hn d x r, VRf.toCl hn ds ws rs⟩
end
mutual
theorem VR.ofCl : ∀ (d : D) (v : V), nCl d = true → VR (g.cl X tab) F ι d v → VR g F ι d v
  | .non, v, _, h => by simpa only [VR] using h
  | .bl b, v, _, h => by simpa only [VR] using h
  | .int i, v, _, h => by simpa only [VR] using h
  | .str x, v, _, h => by simpa only [VR] using h
  | .tup ds, v, n, h => by
    simp only [VR] at h ⊢
    simp only [nCl] at n
    obtain ⟨a, vs, e, t, r⟩ := h
    exact ⟨a, vs, e, t, VRs.ofCl ds vs n r⟩
  | .lst ds, v, n, h => by
    simp only [VR] at h ⊢
    simp only [nCl] at n
    obtain ⟨a, vs, e, t, r⟩ := h
    exact ⟨a, vs, e, t, VRs.ofCl ds vs n r⟩
  | .dct kvs, v, n, h => by
    simp only [VR] at h ⊢
    simp only [nCl] at n
    obtain ⟨a, vs, e, t, r⟩ := h
    exact ⟨a, vs, e, t, VRk.ofCl kvs vs n r⟩
  | .obj c fs, v, n, h => by
    simp only [VR] at h ⊢
    simp only [nCl] at n
    obtain ⟨a, dx, vs, e, t, r⟩ := h
    exact ⟨a, dx, vs, e, t, VRf.ofCl fs vs n r⟩
  | .ref n, v, _, h => by simpa only [VR] using h
  | .clo k, v, n, h => by simp [nCl] at n
  | .scr ns, v, _, h => by
    simp only [VR] at h ⊢
    exact h
theorem VRs.ofCl : ∀ (d : List D) (v : List V), nCls d = true → VRs (g.cl X tab) F ι d v → VRs g F ι d v
  | [], v, _, h => by simpa only [VRs] using h
  | d :: ds, v, n, h => by
    simp only [VRs] at h ⊢
    simp only [nCls, Bool.and_eq_true] at n
    obtain ⟨x, ws, e, r, rs⟩ := h
    exact ⟨x, ws, e, VR.ofCl d x n.1 r, VRs.ofCl ds ws n.2 rs⟩
theorem VRk.ofCl : ∀ (d : List (Key × D)) (v : List (Key × V)), nClk d = true → VRk (g.cl X tab) F ι d v → VRk g F ι d v
  | [], v, _, h => by simpa only [VRk] using h
  | (k, d) :: ds, v, n, h => by
    simp only [VRk] at h ⊢
    simp only [nClk, Bool.and_eq_true] at n
    obtain ⟨x, ws, e, r, rs⟩ := h
    exact ⟨x, ws, e, VR.ofCl d x n.1 r, VRk.ofCl ds ws n.2 rs⟩
theorem VRf.ofCl : ∀ (d : List (Str × D)) (v : List (Str × V)), nClf d = true → VRf (g.cl X tab) F ι d v → VRf g F ι d v
  | [], v, _, h => by simpa only [VRf] using h
  | (k, d) :: ds, v, n, h => by
    simp only [VRf] at h ⊢
    simp only [nClf, Bool.and_eq_true] at n
    obtain ⟨x, ws, e, r, rs⟩ := h
    exact ⟨x, ws, e, VR.ofCl d x n.1 r, VRf.ofCl ds ws n.2 rs⟩
end
theorem OR.toCl (hn : ∀ k a o c u, ¬ g.Cl k a o c u) : ∀ {o : O} {x : HO}, OR g F ι o x → OR (g.cl X tab) F ι o x
  | .lst ds, x, ⟨vs, e, r⟩ => ⟨vs, e, VRs.toCl hn _ _ r⟩
  | .dct ds, x, ⟨vs, e, r⟩ => ⟨vs, e, VRk.toCl hn _ _ r⟩
  | .lkd ds, x, ⟨ob, vs, e, r⟩ => ⟨ob, vs, e, VRk.toCl hn _ _ r⟩
  | .ins c ds, x, ⟨dx, vs, e, r⟩ => ⟨dx, vs, e, VRf.toCl hn _ _ r⟩
theorem OR.ofCl : ∀ {o : O} {x : HO}, nClO o = true → OR (g.cl X tab) F ι o x → OR g F ι o x
  | .lst ds, x, n, ⟨vs, e, r⟩ => ⟨vs, e, VRs.ofCl _ _ n r⟩
  | .dct ds, x, n, ⟨vs, e, r⟩ => ⟨vs, e, VRk.ofCl _ _ n r⟩
  | .lkd ds, x, n, ⟨ob, vs, e, r⟩ => ⟨ob, vs, e, VRk.ofCl _ _ n r⟩
  | .ins c ds, x, n, ⟨dx, vs, e, r⟩ => ⟨dx, vs, e, VRf.ofCl _ _ n r⟩
theorem nClH_at : ∀ {h : AH} {n : Nat} {o : O}, nClH h = true → h[n]? = some (some o) → nClO o = true
  | [], n, o, _, e => by simp at e
  | x :: r, 0, o, c, e => by
    simp at e
    subst e
    simp only [nClH, Bool.and_eq_true] at c
    exact c.1
  | none :: r, n + 1, o, c, e => by
    simp only [nClH] at c
    exact nClH_at (h := r) (n := n) c (by simpa using e)
  | some x :: r, n + 1, o, c, e => by
    simp only [nClH, Bool.and_eq_true] at c
    exact nClH_at (h := r) (n := n) c.2 (by simpa using e)
theorem HR.toCl (hn : ∀ k a o c u, ¬ g.Cl k a o c u) (r : HR g F ι h H) : HR (g.cl X tab) F ι h H :=
  ⟨r.fr, fun n o z => by
    obtain ⟨a, x, e1, e2, e3, e4⟩ := r.hp n o z
    exact ⟨a, x, e1, e2, e3.toCl hn, e4⟩, r.inj, r.len, r.ti, r.pv, r.pt⟩
theorem HR.ofCl (c : nClH h = true) (r : HR (g.cl X tab) F ι h H) : HR g F ι h H :=
  ⟨r.fr, fun n o z => by
    obtain ⟨a, x, e1, e2, e3, e4⟩ := r.hp n o z
    exact ⟨a, x, e1, e2, e3.ofCl (nClH_at c z), e4⟩, r.inj, r.len, r.ti, r.pv, r.pt⟩
/-- a def called where closures may stand about: none goes in -/
def gdF (Fm : FM) : FM := fun ds h => if nCls ds = true ∧ nClH h = true then Fm ds h else .stuck
theorem fn_cl {P : Program} {w : World} {K : PySem.W.Frag} {mg : Str → Option Value} {base : Heap} {CX : CXT} {k n : Nat} {f : Addr} {fd : FuncData} {ps : List Str} {Fm : FM} (hn : ∀ k a o c u, ¬ g.Cl k a o c u) (O : FnOk P w K mg base CX k f fd ps (spF g n Fm)) :
    FnOk P w K mg base CX k f fd ps (spF (g.cl X tab) n (gdF Fm)) := by
  refine O.imp fun vs H Q E hs => ?_
  obtain ⟨hl, F, ι, ds, h, hr, rv, p⟩ := hs
  unfold gdF at p
  split at p
  · rename_i c
    refine ⟨hl, F, ι, ds, h, hr.ofCl c.2, VRs.ofCl _ _ c.1 rv, ?_⟩
    revert p
    cases Fm ds h with
    | ok d h' => exact fun p F' ι' H' v l hr' r => p F' ι' H' v l (hr'.toCl hn) (VR.toCl hn _ _ r)
    | exc c h' => exact fun p F' ι' H' l hr' => p F' ι' H' l (hr'.toCl hn)
    | stuck => exact fun p => p
  · exact p.elim
theorem ti_cl (t : TiOk g) : TiOk (g.cl X tab) := ⟨t.upd⟩
end
section
variable {X : Cx} {g : G} {W : WX}
/-- a lambda in the frame of X -/
theorem em_lam {T : List (Addr × Str)} {tab : List LamT} {c P : Addr} {params : Arguments} {body : Expr} {scope : Scope} {pos : Pos} (k : Nat) (hTi : g.Ti = Tabs T) (t : TiOk g) (TB : TabB X.base X.mg c P) (hcode : X.env.code = .ref c)
    (hm : (P, X.env.qual ++ "<lambda>") ∈ T) (hu : ∀ p ∈ T, p.1 = P → p.2 = X.env.qual ++ "<lambda>") (hk : tab[k]? = some (params, body, scope)) (L : LamS X.env.scope scope) (hdef : defaultsOf params X.env = ([], [])) :
    PE X (.Lambda params body scope pos) (tE (g.cl X tab) W (mC (.clo k))) := by
  refine ⟨fun pins s σv H Q I h => ?_⟩
  obtain ⟨F, ι, σ, h, hr, lr, p⟩ := h
  have hT : Tabs T H := by
    have := hr.ti
    have this : g.Ti H := this
    rw [hTi] at this
    exact this
  refine lam_mk I TB hcode hm hu hT hdef (L.has I.ok) fun f c' pm ctv H1 s' I1 hE hT1 hn hc' => ?_
  have hr1 : HR (g.cl X tab) F ι h H1 := hr.ext hE (by show g.Ti H1; rw [hTi]; exact hT1)
  obtain ⟨F1, hr2, l1, hF1⟩ := hr1.learn hc'
  obtain ⟨hr3, l2⟩ := hr2.newF (ti_cl t) hn (LamO f (PySem.W.kla_obj "<lambda>" (X.env.qual ++ "<lambda>") params body scope (cloFrom X.env.cells scope.names []) pm c' ctv)) (lamO_nt _ _)
  refine ⟨.ref f, _, I1, rfl, p _ ι _ _ (l1.trans l2) hr3 ?_⟩
  simp only [VR]
  exact ⟨f, _, c', _, rfl, add_same, l2.fr _ _ hF1, (params, body, scope), pm, ctv, hk, rfl, rfl⟩
end
end DV
end
section
set_option Elab.async false
set_option linter.all false
set_option maxRecDepth 100000
set_option maxHeartbeats 2000000
namespace DV
open PySem L2 PyProof.Rows PySem.Spec LamX

/-! ### lambdas called -/
section
variable {X : Cx} {pins : List (Addr × Obj)} {σ : L2.St} {H HZ : Hp} {s s1 : Shared}
theorem lam_start3 {fs : List Addr} {A : Around} {outer : List Env} {E : XK} {scope : Scope} {f c' : Addr} {h₁ : Heap} {tk : Nat} (I : Inv X pins σ H s) (L : LamS X.env.scope scope) (e0 : Env0 X.prog X.w X.K X.mg X.base A outer s1 HZ) (hd : A.handled = none)
    (un : Un fs [] H HZ s.heap s1.heap) (hns : h₁.Ns s1.heap.objs.size fun y => ([] : List (Str × Value)).reverse.lookup y) (kp : ∀ b o, s1.heap.get? b = some o → h₁.get? b = some o) :
    Inv (lamCx X A outer s1 HZ E scope f c') [] σ HZ { s1 with heap := h₁, toks := tk } := by
  have hfree := L.has I.ok
  have cm : ∀ {y c}, (cloFrom X.env.cells scope.names []).lookup y = some c → X.env.cells.lookup y = some c := fun {y c} e => by
    rcases cloFrom_mem (PySem.mem_of_lookup e) with hm | ⟨h1, h2⟩
    · cases hm
    · obtain ⟨c1, hc⟩ := hfree _ h1 rfl
      have hc : X.env.cells.lookup y = some c1 := hc
      have e2 : c = c1 := by
        rw [h2, hc] <;> rfl
      rw [e2]
      exact hc
  have look : ∀ {y}, scope.names.lookup y = some .free → ∃ c, (cloFrom X.env.cells scope.names []).lookup y = some c := fun {y} hl => by
    have hy : (y, NameKind.free) ∈ scope.names := PySem.mem_of_lookup hl
    exact mem_lookup (cloFrom_has (cells := X.env.cells) (acc := []) hy)
  have cellK : ∀ {c : Addr} {v : Option Value}, H c = none → s.heap.IsCell c v → h₁.IsCell c v := fun {c v} n ⟨o, ho, hd⟩ => by
    obtain ⟨sl, q⟩ := un.any ho n (by simp)
    exact ⟨_, kp _ _ q, hd⟩
  have noA : ∀ b : Addr, b ∉ (lamCx X A outer s1 HZ E scope f c').ex := fun b z => absurd (show b ∈ ([] : List Addr) from z) (by simp)
  refine ⟨⟨e0.mod, L.kind, rfl, rfl, Nat.le_refl _, fun y z c e1 e2 => I.ok.inj y z c (cm e1) (cm e2), fun y hy => ?_, fun y c z _ => ?_, fun _ => hd, Around.frames_deeper e0.frames, .inr ⟨rfl, rfl⟩, fun b z => absurd z (noA b), e0.bs, e0.bsz, fun b _ _ => noA b,
      fun b z => absurd z (noA b), e0.funs, e0.frf⟩,
    rfl, e0.bare, Un.kept kp, ⟨_, hns, fun i y v e1 e2 e3 => ?_⟩, fun y c e => ?_, e0.hok.fresh (Nat.le_refl _), fun y c e => ?_, fun q hq => absurd (show q ∈ ([] : List (Addr × Obj)) ++ [] from hq) (by simp), e0.hok.kept kp, I.len⟩
  · have hy : scope.names.lookup y = some .cell ∨ scope.names.lookup y = some .free := hy
    rcases hy with hy | hy
    · exact absurd rfl (L.own _ (PySem.mem_of_lookup hy)).2
    · exact look hy
  · have z : false = true := z
    cases z
  · have e3 : Vis scope y := e3
    rcases e3 with k | k | k
    · exact absurd rfl (L.own _ (PySem.mem_of_lookup k)).1
    · exact absurd rfl (L.own _ (PySem.mem_of_lookup k)).2
    · obtain ⟨m, hn, hl⟩ := I.loc
      have hvis : Vis X.env.scope y := (L.free _ (PySem.mem_of_lookup k) rfl).elim (fun k => .inr (.inl k)) (fun k => .inr (.inr k))
      obtain ⟨w', r, q⟩ := hl i y v e1 e2 hvis
      obtain ⟨c2, h2⟩ := look k
      refine ⟨w', r, .inr ⟨.inr k, c2, h2, ?_⟩⟩
      have c1 := cm h2
      rcases q with ⟨k', _⟩ | ⟨_, c3, e', z⟩
      · have k' : X.env.scope.names.lookup y = some .local := k'
        rcases L.free _ (PySem.mem_of_lookup k) rfl with k2 | k2 <;> rw [show X.env.scope.names.lookup y = _ from k2] at k' <;> cases k'
      · rw [c1] at e'
        cases e'
        exact cellK (I.freeC y _ c1) z
  · obtain ⟨w', z⟩ := I.cell y c (cm e)
    exact ⟨w', cellK (I.freeC y c (cm e)) z⟩
  · obtain ⟨v, o, ho, hd⟩ := I.cell y c (cm e)
    exact un.free c o ho (I.freeC y c (cm e)) (by simp)
/-- x(), in the def that got the lambda; the lambda's own context is X, the def was entered at s over the frames stk -/
theorem pe_actL {stk : List Env} {CXg : CXT} {Eg : XK} {Ng : List Str} {qg : Str} {sg : Scope} {g f c' : Addr} {cdg pm ctv : Value} {params : Arguments} {body : Expr} {scope : Scope} {k i : Nat} {a : Str} {pn : List (Addr × Obj)} {xe : Value → Shared → Prop} {W : WX} {E : XK} {tb : TE} {p1 p2 : Pos}
    (I : Inv X pins σ H s) (L : LamS X.env.scope scope)
    (hbind : bindArgs (PySem.W.kla_fn "<lambda>" (X.env.qual ++ "<lambda>") params body scope (cloFrom X.env.cells scope.names []) pm (.ref c') ctv) ⟨[], []⟩ = pure [])
    (tk : Takes ((cxOf CXg X.prog X.w X.K X.mg X.base Ng qg sg g cdg X.A stk s H Eg).tr pn xe) W) (hW : ∀ cls d σ' H', E cls d H' → W cls d σ' H') (hr : Room (k + 1) (X.A.deeper (envOfC qg sg s.heap.objs.size g cdg)))
    (hbody : ∀ (A : Around) (outer : List Env) (s : Shared) (H : Hp), Room k (A.deeper (lamEnv X scope s.heap.objs.size f c')) → PE (lamCx X A outer s H E scope f c') body tb)
    (hN : Ng[i]? = some a) (hv : Vis sg a) (hd : (a == ("__debug__" : Str)) = false := by decide) (hcd : (a == ("__classdict__" : Str)) = false := by decide) :
    PE ((cxOf CXg X.prog X.w X.K X.mg X.base Ng qg sg g cdg X.A stk s H Eg).tr pn xe) (.Call (.Name a p1) [] [] p2)
      (fun σZ HZ Q => σZ[i]? = some (some (.ref f)) ∧ HZ c' = some (CodeO c' (X.env.qual ++ "<lambda>")) ∧ HZ f = some (LamO f (PySem.W.kla_obj "<lambda>" (X.env.qual ++ "<lambda>") params body scope (cloFrom X.env.cells scope.names []) pm c' ctv)) ∧ tb σ HZ Q) := by
  refine ⟨fun pinsZ sZ σZ HZ Q IZ h => ?_⟩
  obtain ⟨hs, hc, hlo, ht⟩ := h
  refine wpAny_Call_Name_kw (thn ((pe_var (pos := p1) (i := i) hN hv hd hcd).run pinsZ sZ σZ HZ (fun v H1 => v = .ref f ∧ H1 = HZ) IZ ⟨.ref f, hs, rfl, rfl⟩) fun u s1 ⟨v, H1, I1, r1, q1⟩ => ?_)
  obtain ⟨ev, eH⟩ := q1
  subst ev
  rw [eH] at I1
  obtain rfl : u = Value.ref f := r1
  have of1 : s1.heap.get? f = some (PySem.W.kla_obj "<lambda>" (X.env.qual ++ "<lambda>") params body scope (cloFrom X.env.cells scope.names []) pm c' ctv) := (I1.hok f _ hlo).1
  refine PySem.W.callWith_F0 ⟨_, _, _, _, of1⟩ ?_
  have un : Un (frs stk) [] H HZ s.heap s1.heap := I1.base
  obtain ⟨⟨oc, vs, t, hoc, hdc, hvc⟩, _, _⟩ := I1.hok c' _ hc
  have rc : codeAny (model X.prog X.w) (X.A.deeper (envOfC qg sg s.heap.objs.size g cdg)) (.call (.ref f) ⟨[], []⟩) (CR (L2.CX X.prog X.w) (envOfC qg sg s.heap.objs.size g cdg :: stk) X.prog X.w HZ s1 Q E) s1 := by
    refine PySem.W.kla_callFunE hr.depth of1 rfl L.co L.gen rfl ⟨c', oc, vs, t, rfl, hoc, hdc, hvc⟩ ?_
    rw [hbind]
    refine wpAny_pure (wpAny_newFunctionEnv (fun y hy => (L.own y hy).2) (fun y hy => absurd hy (by simp)) (fun h₁ hns hsb => ⟨I1.nolimit.fresh _ hsb, ?_⟩) L.kind)
    show codeAny _ _ (.expr body (lamEnv X scope s1.heap.objs.size f c')) _ _
    have kp : ∀ b o, s1.heap.get? b = some o → h₁.get? b = some o := fun b o e => hsb.extBut b o (Nat.ne_of_lt (Heap.lt_size e)) (Heap.get?_push_of_some _ e)
    have J : Inv (lamCx X (X.A.deeper (envOfC qg sg s.heap.objs.size g cdg)) (envOfC qg sg s.heap.objs.size g cdg :: stk) s1 HZ E scope f c') [] σ HZ { s1 with heap := h₁, toks := s1.toks + ([] : List (Str × Value)).length } :=
      lam_start3 I L I1.env0 hr.hd un hns kp
    refine PySem.W.kla_codeExpr (wpAny_mono ((hbody _ _ s1 HZ (hr.deeper _)).run [] _ _ HZ Q J ht) (fun v s' hq => ?_) fun e s' hq => hq)
    obtain ⟨w', H', J', rv, q⟩ := hq
    exact ⟨w', H', J'.os, J'.bare, J'.base, J'.hok, rv, q⟩
  have hx : Passes (L2.CX X.prog X.w) ((cxOf CXg X.prog X.w X.K X.mg X.base Ng qg sg g cdg X.A stk s H Eg).tr pn xe) E := passes_call tk hW
  refine wpAny_call (codeAny_mono rc fun r s' hq => ?_)
  cases r with
  | error e => exact hx pinsZ σZ HZ s1 e s' I1 hq
  | ok fl =>
    cases fl with
    | ret u => exact I1.after hq
    | next => exact False.elim hq
    | brk => exact False.elim hq
    | cont => exact False.elim hq
end
section
variable {X : Cx}
theorem lc_coreI {pins : List (Addr × Obj)} {s : Shared} {σ : L2.St} {H : Hp} {Q : VK} {elt tg iter : Expr} {ifs : List Expr} {scope : Scope} {own : List (Str × Nat)} {pos pos' : Pos} {wi : TI} {g : TG} {tt : TT} {te : TE} {use : Option (Value → Sem Unit)} {Qf : Value → Shared → Prop}
    (hc : X.calm = true) (hN : X.N.Nodup) (I : Inv X pins σ H s) (hi : PI X tg iter wi) (ok : BlkOk X.N X.env.scope scope own)
    (hg : ∀ (s : Shared) (H : Hp) (C : Addr) (cl : List (Str × Addr)) (fp : List Addr), PG (X.blk s H scope (compEnvC scope cl C X.env) fp) tg g) (ht : ∀ (s : Shared) (H : Hp) (C : Addr) (cl : List (Str × Addr)) (fp : List Addr), (∀ pins' σ' H' s', Inv (X.blk s H scope (compEnvC scope cl C X.env) fp) pins' σ' H' s' → Inv X pins σ H' s') → PTs (X.blk s H scope (compEnvC scope cl C X.env) fp) ifs (fun σ2 H Q => wipe σ2 (own.map (·.2)) = wipe σ (own.map (·.2)) ∧ tt σ2 H Q))
    (he : ∀ (s : Shared) (H : Hp) (C : Addr) (cl : List (Str × Addr)) (fp : List Addr), PE (X.blk s H scope (compEnvC scope cl C X.env) fp) elt te) (hs : ∀ x, foldedSetIterable iter X.env x = pure x)
    (h : tLc wi g tt te (own.map (·.2)) σ H Q)
    (hRR : ∀ D C s' m H', Inv X pins σ H' s' → Q (.ref D) H' → s'.heap.Ns C m → FpOk X pins H' C → compPost (model X.prog X.w) X.A X.xe use Qf (.ref D) C (.ok .next) s') :
    wpAny (model X.prog X.w) X.A (comprehension (.ListComp elt [⟨tg, iter, ifs, 0⟩] scope pos) scope X.env pos' (newList []) false (eval iter X.env) use) Qf X.xe s := by
  have hfree : ∀ y ∈ scope.names, y.2 = .free → ∃ c, X.env.cells.lookup y.1 = some c := fun y hy e => by
    rcases ok.free y hy e with k | k
    · exact I.ok.has _ (.inl k)
    · exact I.ok.has _ (.inr k)
  refine wpAny_comprehension_free (use := use) rfl hs (closure_ok hfree) ok.kind (fun y hy e => by rw [ok.uniq y hy, e])
    (thn (hi.run pins s σ H _ I h) fun xv s1 hx => thn hx fun itv s2 h2 => ?_)
  obtain ⟨it, fp, tn, J, H2, e, I2, T, st2, f2, q⟩ := h2
  subst e
  refine wpAny_newObj_type (newEnv_comp ?_) (by show 0 ≤ sizeLine; decide)
  generalize hD : s2.heap.objs.size = D
  have hDn : H2 D = none := I2.hok.fresh (Nat.le_of_eq hD)
  obtain ⟨W, ⟨m0, w0⟩, turn⟩ := q D hDn
  -- the new list
  generalize hs3 : ({ s2 with heap := s2.heap.push { cls := .type "list", data := .seq ([] : List Value).toArray } } : Shared) = s3
  have I3 : Inv X pins σ (upd H2 D (.lst [])) s3 := by
    rw [← hs3]
    refine I2.laid (t' := s2.toks) (fun b o e => Heap.get?_push_of_some _ e) (Nat.le_of_eq hD) ⟨Nat.zero_le _, [], 0, .nil, ?_⟩
    rw [← hD]
    exact Heap.get?_push_size _ rfl
  have h3 : s3.heap = s2.heap.push { cls := .type "list", data := .seq ([] : List Value).toArray } := by rw [← hs3]
  have sz : ∀ b ∈ fp, b < s2.heap.objs.size := fun b hb => by
    obtain ⟨o, e, _⟩ := T.obj _ _ st2 b hb
    exact Heap.lt_size e
  have f3 : ∀ b ∈ fp, FpOk X pins (upd H2 D (.lst [])) b ∧ b < s3.heap.objs.size := fun b hb => by
    have hlt := sz b hb
    refine ⟨⟨?_, (f2 b hb).2⟩, by rw [h3, Heap.size_push]; exact Nat.lt_succ_of_lt hlt⟩
    rw [upd_ne (by rw [← hD]; exact Nat.ne_of_lt hlt)]
    exact (f2 b hb).1
  have st3 : tn 0 s3.heap := T.keep _ _ _ st2 fun b _ o e => by rw [h3]; exact Heap.get?_push_of_some _ e
  have I4 := block_start I3 ok hN f3
  have pg := hg s3 (upd H2 D (.lst [])) s3.heap.objs.size (cellsFrom (s3.heap.objs.size + 1) scope.names (cloFrom X.env.cells scope.names [])) fp
  have pt := ht s3 (upd H2 D (.lst [])) s3.heap.objs.size (cellsFrom (s3.heap.objs.size + 1) scope.names (cloFrom X.env.cells scope.names [])) fp (fun _ _ _ _ I6 => I3.call' (ch := fp) I6.os I6.base I6.hok I6.bare fun b hb => ⟨(f3 b hb).1.2.2.2.1, (f3 b hb).1.2.1, (f3 b hb).1.2.2.2.2.1, (f3 b hb).1.2.2.2.2.2⟩)
  have pe := he s3 (upd H2 D (.lst [])) s3.heap.objs.size (cellsFrom (s3.heap.objs.size + 1) scope.names (cloFrom X.env.cells scope.names [])) fp
  show codeAny _ _ (.compStart (.ListComp elt [⟨tg, iter, ifs, 0⟩] scope pos) 0 (.ref it) (.ref D) (compEnvC scope (cellsFrom (s3.heap.objs.size + 1) scope.names (cloFrom X.env.cells scope.names [])) s3.heap.objs.size X.env)) (compPost (model X.prog X.w) X.A X.xe use Qf (.ref D) s3.heap.objs.size) { s3 with heap := pushCells (s3.heap.push { cls := .type "dict", data := .dict #[] }) scope.names }
  have nfp : ∀ b ∈ fp, (upd H2 D (.lst [])) b = none := fun b hb => (f3 b hb).1.1
  generalize hce : compEnvC scope (cellsFrom (s3.heap.objs.size + 1) scope.names (cloFrom X.env.cells scope.names [])) s3.heap.objs.size X.env = ce at I4 pg pt pe ⊢
  have cL : ce.locals = s3.heap.objs.size := by subst hce; rfl
  generalize hH3 : upd H2 D (.lst []) = H3 at I3 I4 pg pt pe w0 nfp f3
  generalize hs4 : ({ s3 with heap := pushCells (s3.heap.push { cls := .type "dict", data := .dict #[] }) scope.names } : Shared) = s4 at I4 ⊢
  have st4 : tn 0 s4.heap := T.keep _ _ _ st3 fun b _ o e => by rw [← hs4]; exact pushCells_keeps _ _ _ _ (Heap.get?_push_of_some _ e)
  have stat : ∀ {σ' : L2.St} {H' : Hp} {s' : Shared}, Inv (X.blk s3 H3 scope ce fp) [] σ' H' s' → (∀ b ∈ fp, H' b = none) → ∀ b ∈ fp, FpOk (X.blk s3 H3 scope ce fp) [] H' b := fun {σ' H' s'} I' hn b hb =>
    ⟨hn b hb, (I'.ok.exf b hb).1, I'.ok.exfs b hb, .inl hb, fun x c e => (I'.ok.exf b hb).2 x c e, fun p hp => absurd (show p ∈ ([] : List (Addr × Obj)) ++ [] from hp) (by simp)⟩
  have loop : codeAny (model X.prog X.w) X.A (.compLoop (.ListComp elt [⟨tg, iter, ifs, 0⟩] scope pos) 0 (.ref it) (.ref D) ce) (compPost (model X.prog X.w) X.A X.xe use Qf (.ref D) s3.heap.objs.size) s4 := by
    refine compLoop_any (fun n s' => ∃ i H', Inv (X.blk s3 H3 scope ce fp) [] (wipe σ (own.map (·.2))) H' s' ∧ tn i s'.heap ∧ (∀ b ∈ fp, H' b = none) ∧ W i n H') ?_ m0 ⟨0, H3, I4, st4, nfp, w0⟩
    rintro n s5 ⟨i, H5, I5, st5, n5, w5⟩
    rcases turn i n H5 w5 with ⟨stop, qq⟩ | ⟨go, Nx, hNx, step⟩
    · have td := T.done (X.blk s3 H3 scope ce fp) rfl rfl rfl hc i [] s5 _ H5 (fun _ _ => False) I5 (stat I5 n5) st5 stop
      refine thnF td fun r s6 ⟨hr, I6⟩ => ?_
      subst hr
      -- back in the def's context
      have I7 : Inv X pins σ H5 s6 := I3.call' (ch := fp) I6.os I6.base I6.hok I6.bare fun b hb => ⟨(f3 b hb).1.2.2.2.1, (f3 b hb).1.2.1, (f3 b hb).1.2.2.2.2.1, (f3 b hb).1.2.2.2.2.2⟩
      have nC : H5 s3.heap.objs.size = none := by
        have z : H5 ce.locals = none := I6.free
        rw [cL] at z
        exact z
      obtain ⟨m, hn, _⟩ := I6.loc
      have hn : s6.heap.Ns ce.locals m := hn
      rw [cL] at hn
      exact hRR D s3.heap.objs.size s6 m H5 I7 qq hn (I3.fpOk (Nat.le_refl _) nC)
    · have ti := T.item (X.blk s3 H3 scope ce fp) rfl rfl rfl hc i [] s5 _ H5 (fun _ _ => False) I5 (stat I5 n5) st5 go
      refine thnF ti fun r s6 ⟨u, hr, h6⟩ => ?_
      subst hr
      refine thnF h6 fun _ s7 ⟨x, H7, I7, r7, y7, st7, n7⟩ => ?_
      have I7' := I7.pinned (stat I7 n7) (T.obj _ _ st7)
      refine thnF (pg.run _ s7 _ H7 x u _ I7' r7 (step x H7 y7)) fun _ s8 ⟨σ8, H8, I8, hw8, q8⟩ => ?_
      refine thnF (pt.run _ s8 σ8 H8 _ I8 ⟨hw8, q8⟩) fun b s9 ⟨H9, I9, q9⟩ => ?_
      -- the turn's end
      have fin : ∀ {s' : Shared} {H' : Hp}, Inv (X.blk s3 H3 scope ce fp) ([] ++ pinsAt fp s7.heap) σ8 H' s' → Nx H' → ∃ m, m < n ∧ ∃ i H', Inv (X.blk s3 H3 scope ce fp) [] (wipe σ (own.map (·.2))) H' s' ∧ tn i s'.heap ∧ (∀ b ∈ fp, H' b = none) ∧ W i m H' := fun {s' H'} I' nx => by
        obtain ⟨m', hm, w'⟩ := hNx H' nx
        have pin' : ∀ b ∈ fp, ∀ o, s7.heap.get? b = some o → s'.heap.get? b = some o ∧ H' b = none := fun b hb o e =>
          let z := I'.pin (b, o) (List.mem_append_right _ (List.mem_append_right _ (mem_pinsAt hb e)))
          ⟨z.1, z.2.1⟩
        have hl : (wipe σ (own.map (·.2))).length = σ8.length := by rw [← hw8, wipe_length]
        refine ⟨m', hm, i + 1, H', (I'.unpinned (pins := [])).weak hl (fun j v e => ?_), T.keep _ _ _ st7 fun b hb o e => (pin' b hb o e).1, fun b hb => ?_, w'⟩
        · rw [← hw8] at e
          exact (wipe_some e).1
        · obtain ⟨o, e, _⟩ := T.obj _ _ st7 b hb
          exact (pin' b hb o e).2
      cases b with
      | false =>
        simp only [Bool.false_eq_true, if_false] at q9 ⊢
        exact fin I9 q9
      | true =>
        simp only [if_true] at q9 ⊢
        refine thnF (pe.run _ s9 σ8 H9 _ I9 q9) fun z s10 ⟨yv, H10, I10, r10, acc, hD10, hz10, nx⟩ => ?_
        exact app_ok (X := X.blk s3 H3 scope ce fp) I10 hD10 hz10 r10 fun s11 I11 => fin I11 nx
  exact codeAny_compStart_list loop (T.self X.A 0 _ _ _ st4 loop)

variable {pins : List (Addr × Obj)} {σ : L2.St} {g : G} {tab : List LamT} {lm : Nat → ME}
/-- the lambdas of a frame keep their mirrors -/
def LamsOk (X : Cx) (g : G) (tab : List LamT) (k0 : Nat) (lm : Nat → ME) : Prop := ∀ (k : Nat) (e : LamT), tab[k]? = some e → LamS X.env.scope e.2.2 ∧ (∀ (q : Str) (cl : List (Str × Addr)) (pm cv ctv : Value), bindArgs (PySem.W.kla_fn "<lambda>" q e.1 e.2.1 e.2.2 cl pm cv ctv) ⟨[], []⟩ = pure []) ∧
  ∀ (A : Around) (outer : List Env) (s : Shared) (H : Hp) (E : XK) (f c' : Addr), Room k0 (A.deeper (lamEnv X e.2.2 s.heap.objs.size f c')) → PE (lamCx X A outer s H E e.2.2 f c') e.2.1 (tE (g.cl X tab) (WF E) (lm k))
def tToldL (X : Cx) (g : G) (tab : List LamT) (lm : Nat → ME) (σ : L2.St) (vs : List Nat) (j : Nat) (CS : Addr) (ret : Str) : TE := fun σ2 H Q => wipe σ2 vs = wipe σ vs ∧ ∃ (k : Nat) (f c' : Addr) (e : LamT) (pm ctv : Value), σ2[j]? = some (some (.ref f)) ∧
  H f = some (LamO f (PySem.W.kla_obj "<lambda>" (X.env.qual ++ "<lambda>") e.1 e.2.1 e.2.2 (cloFrom X.env.cells e.2.2.names []) pm c' ctv)) ∧ H c' = some (CodeO c' (X.env.qual ++ "<lambda>")) ∧ tab[k]? = some e ∧
  tE (g.cl X tab) (WF fun cls _ H' => ∃ b, PySem.W.exmOne X.K cls (.ref CS) = some b ∧ (b = true → Q (.str ret) H') ∧ (b = false → False)) (lm k) (wipe σ vs) H Q
/-- told(f), f a lambda of the frame of X, asked in a block of X -/
theorem pe_told {s0 : Shared} {H0 : Hp} {sc : Scope} {cenv : Env} {fp : List Addr} {x a : Str} {gA : Addr} {k0 j : Nat} {pg : Arguments} {bg : List Stmt} {sg : Scope} {dV kV doc pm0 cdv ct oc : Value} {an od : Option Addr} {osl : Array (Option Value)} {Ng : List Str} {v : Str} {CS : Addr} {ret : Str} {p p' pos : Pos} {vs : List Nat}
    (back : ∀ pins' σ' H' s', Inv (X.blk s0 H0 sc cenv fp) pins' σ' H' s' → Inv X pins σ H' s') (LM : LamsOk X g tab k0 lm)
    (hg : Gl (X.blk s0 H0 sc cenv fp) x) (hm : X.mg x = some (.ref gA)) (hk : PySem.W.keepIn X.K (.ref gA) = true)
    (lk : X.K.lookup gA = some ⟨oc, od, .func (PySem.W.fnOf x x pg bg sg dV kV doc pm0 an cdv ct), osl⟩) (hcg : PySem.W.codeIn X.K cdv x = true) (hb : L2.Binds X.K (PySem.W.fnOf x x pg bg sg dV kV doc pm0 an cdv ct) [a] []) (Sg : FnScope Ng [a] sg) (hNg : Ng[0]? = some a) (hva : Vis sg a)
    (hG : GivesTo (X.blk s0 H0 sc cenv fp) Ng x sg gA cdv bg a (X.env.qual ++ "<lambda>") (TTold X.K CS ret)) (hr : Room (k0 + 2) X.A)
    (hN : X.N[j]? = some v) (hv : Vis cenv.scope v)
    (hdb : (x == ("__debug__" : Str)) = false := by decide) (hd : (a == ("__debug__" : Str)) = false := by decide) (hcd : (a == ("__classdict__" : Str)) = false := by decide) (hd2 : (v == ("__debug__" : Str)) = false := by decide) (hcd2 : (v == ("__classdict__" : Str)) = false := by decide) :
    PE (X.blk s0 H0 sc cenv fp) (.Call (.Name x p) [.Name v p'] [] pos) (tToldL X g tab lm σ vs j CS ret) := by
  refine ⟨fun pins' s1 σ2 H Q I h => ?_⟩
  obtain ⟨hw, k, f, c', e, pm, ctv, hs, hF, hC, hk2, ht⟩ := h
  obtain ⟨L, hbind, hbody⟩ := LM k e hk2
  refine wpAny_Call_Name_kw (ld_glob I hg hm ?_ hdb)
  refine PySem.W.callWith_K (h₀ := X.base) I.ok.mod.kin hk ?_ (by rfl) (by rfl)
  show wpAny _ _ (spliced ((false, eval (.Name v p') (X.blk s0 H0 sc cenv fp).env) :: backTo pos (starEach [] (X.blk s0 H0 sc cenv fp).env))) _ _ s1
  refine Calls.spliced_cons (thn ((pe_var (X := X.blk s0 H0 sc cenv fp) (pos := p') (i := j) hN hv hd2 hcd2).run pins' s1 σ2 H (fun v H1 => v = .ref f ∧ H1 = H) I ⟨.ref f, hs, rfl, rfl⟩) fun u s2 ⟨v2, H1, I1, r1, q1⟩ => ?_)
  obtain ⟨ev, eH⟩ := q1
  subst ev
  rw [eH] at I1
  obtain rfl : u = Value.ref f := r1
  refine Calls.spliced_nil ⟨I1.kIn, ?_⟩
  have IX : Inv X pins σ H s2 := back _ _ _ _ I1
  have IW : Inv X pins (wipe σ vs) H s2 := IX.weak (by rw [wipe_length]) fun j v e => (wipe_some e).1
  have rc : codeAny (model X.prog X.w) X.A (.call (.ref gA) ⟨[.ref f], []⟩) (CR C8.CX0 (X.blk s0 H0 sc cenv fp).stack X.prog X.w H s2 Q C8.E0) s2 := by
    refine run_ofS (N := Ng) (ps := [a]) (us := [.ref f]) (vs := [.ref f]) lk hcg Sg hr I1.env0 (hb s2 [.ref f] I1.kIn rfl) (.cons rfl .nil) rfl fun hr' => ?_
    obtain ⟨t', ht', hq'⟩ := hG f c' s2 H Q (fun E HZ Q' => HZ f = some (LamO f (PySem.W.kla_obj "<lambda>" (X.env.qual ++ "<lambda>") e.1 e.2.1 e.2.2 (cloFrom X.env.cells e.2.2.names []) pm c' ctv)) ∧ tE (g.cl X tab) (WF E) (lm k) (wipe σ vs) HZ Q')
      (fun W pn xe E p1 p2 tk hW => pe_actL (stk := (X.blk s0 H0 sc cenv fp).stack) (i := 0) IW L (hbind _ _ _ _ _) tk hW hr' (fun A outer s H hr2 => hbody A outer s H E f c' hr2) hNg hva hd hcd) hC ⟨hF, ht⟩
    exact ⟨t', ht'.nox, hq'⟩
  refine wpAny_call (codeAny_mono rc fun r s2 hq => ?_)
  cases r with
  | error e => exact (show False from hq).elim
  | ok fl =>
    cases fl with
    | ret u => exact I1.after hq
    | next => exact False.elim hq
    | brk => exact False.elim hq
    | cont => exact False.elim hq
def mToldL (j : Nat) (vs : List Nat) (lm : Nat → ME) (c0 : Nat) : MT := fun σ h => match σ[j]? with
  | some (some (.clo k)) => match lm k (wipeA σ vs) h with
    | .exc c h' => if c = c0 then .ok false h' else .stuck
    | _ => .stuck
  | _ => .stuck
theorem told_weak {vs : List Nat} {j c0 : Nat} {ret : Str} (hex : PySem.W.exmOne X.K (.ref (g.exc c0)) (.ref (g.exc c0)) = some true) {σ2 : L2.St} {H : Hp} {Q : Bool → Hp → Prop} (hw : wipe σ2 vs = wipe σ vs) (h : tT (g.cl X tab) W0 (mToldL j vs lm c0) σ2 H Q) :
    tToldL X g tab lm σ vs j (g.exc c0) ret σ2 H fun x H1 => x = .str ret ∧ Q false H1 := by
  obtain ⟨F, ι, σa, h, hr, lr, p⟩ := h
  refine ⟨hw, ?_⟩
  unfold mToldL at p
  split at p
  · rename_i k hk
    obtain ⟨v, ev, rv⟩ := lr.2 j _ hk
    simp only [VR] at rv
    obtain ⟨f, o, c', u, e1, e2, e3, e, pm, ctv, e4, e5, e6⟩ := rv
    subst e1 e5 e6
    have hF : H f = some (LamO f (PySem.W.kla_obj "<lambda>" (X.env.qual ++ "<lambda>") e.1 e.2.1 e.2.2 (cloFrom X.env.cells e.2.2.names []) pm c' ctv)) := by
      rcases hr.fr f _ e2 with ⟨z, _⟩ | ⟨ws, ob, z, _⟩
      · exact z
      · unfold LamO at z; cases z
    have hC : H c' = some (CodeO c' (X.env.qual ++ "<lambda>")) := by
      rcases hr.fr c' _ e3 with ⟨z, _⟩ | ⟨ws, ob, z, _⟩
      · exact z
      · unfold CodeO at z; cases z
    refine ⟨k, f, c', e, pm, ctv, ev, hF, hC, e4, F, ι, wipeA σa vs, h, hr, by rw [← hw]; exact lr.wipe vs, ?_⟩
    revert p
    cases lm k (wipeA σa vs) h with
    | ok d h' => exact fun p => p.elim
    | stuck => exact fun p => p.elim
    | exc c h' =>
      dsimp only
      intro p F' ι' H' l hr'
      by_cases hc : c = c0
      · rw [if_pos hc] at p
        subst hc
        exact ⟨true, hex, fun _ => ⟨rfl, p F' ι' H' false l hr' rfl⟩, fun z => by cases z⟩
      · rw [if_neg hc] at p
        exact p.elim
  · exact p.elim
theorem pts_told {s0 : Shared} {H0 : Hp} {sc : Scope} {cenv : Env} {fp : List Addr} {e : Expr} {vs : List Nat} {j c0 jj : Nat} {ret : Str} {pc pos2 : Pos} (hex : PySem.W.exmOne X.K (.ref (g.exc c0)) (.ref (g.exc c0)) = some true)
    (h : PE (X.blk s0 H0 sc cenv fp) e (tToldL X g tab lm σ vs j (g.exc c0) ret)) (hm : behindInMarks .NotEq (.Constant (.str ret) jj pc) = false) :
    PTs (X.blk s0 H0 sc cenv fp) [.Compare e [.NotEq] [.Constant (.str ret) jj pc] pos2] (fun σ2 H Q => wipe σ2 vs = wipe σ vs ∧ tT (g.cl X tab) W0 (mToldL j vs lm c0) σ2 H Q) := by
  refine ⟨fun pins' s1 σ2 H Q I hq => (pts_one (pt_cmpR op_ne h pe_str hm)).run pins' s1 σ2 H Q I ?_⟩
  obtain ⟨hw, hq⟩ := hq
  have z := told_weak (ret := ret) hex hw hq
  refine ⟨hw, ?_⟩
  obtain ⟨_, k, f, c', e, pm, ctv, z1, z2, z3, z4, F, ι, σa, h, hr, lr, p⟩ := z
  refine ⟨k, f, c', e, pm, ctv, z1, z2, z3, z4, F, ι, σa, h, hr, lr, ?_⟩
  have up : ∀ x H1, (x = V.str ret ∧ Q false H1) → (fun x H1 => (fun σ H Q => Q (V.str ret) H : TE) σ2 H1 fun y H2 => rNe x y H2 fun z H' => ∃ k, z = .bl k ∧ Q k H') x H1 := by
    rintro x H1 ⟨rfl, q⟩
    exact ⟨rfl, false, by simp, q⟩
  revert p
  cases lm k σa h with
  | ok d h' => exact fun p F' ι' H' v l hr' r => up _ _ (p F' ι' H' v l hr' r)
  | stuck => exact fun p => p
  | exc c h' =>
    intro p F' ι' H' l hr'
    obtain ⟨b, e1, e2, e3⟩ := p F' ι' H' l hr'
    exact ⟨b, e1, fun hb => up _ _ (e2 hb), e3⟩
theorem em_lcI {W : WX} {elt tg iter : Expr} {ifs : List Expr} {scope : Scope} {own : List (Str × Nat)} {pos : Pos} {is vs : List Nat} {mi : MI} {mg : MG} {mt : MT} {me : ME} (t : TiOk g) (mu : Bool) (hc : X.calm = true) (hN : X.N.Nodup) (hi : PI X tg iter (tI g W mi)) (ok : BlkOk X.N X.env.scope scope own) (hvs : own.map (·.2) = vs) (hsub : ∀ i ∈ is, i ∈ vs)
    (hg : ∀ (s : Shared) (H : Hp) (C : Addr) (cl : List (Str × Addr)) (fp : List Addr), PG (X.blk s H scope (compEnvC scope cl C X.env) fp) tg (tG g W0 is mg))
    (ht : ∀ (pins : List (Addr × Obj)) (σ : L2.St) (s : Shared) (H : Hp) (C : Addr) (cl : List (Str × Addr)) (fp : List Addr), (∀ pins' σ' H' s', Inv (X.blk s H scope (compEnvC scope cl C X.env) fp) pins' σ' H' s' → Inv X pins σ H' s') → PTs (X.blk s H scope (compEnvC scope cl C X.env) fp) ifs (fun σ2 H Q => wipe σ2 vs = wipe σ vs ∧ tT g W0 mt σ2 H Q))
    (he : ∀ (s : Shared) (H : Hp) (C : Addr) (cl : List (Str × Addr)) (fp : List Addr), PE (X.blk s H scope (compEnvC scope cl C X.env) fp) elt (tE g W0 me)) (hs : ∀ x, foldedSetIterable iter X.env x = pure x := by intro _; rfl) :
    PE X (.ListComp elt [⟨tg, iter, ifs, 0⟩] scope pos) (tE g W (mLc mu mi vs mg mt me)) := by
  subst hvs
  refine ⟨fun pins s σ H Q I h => ?_⟩
  rw [eval_ListComp]
  refine lc_coreI hc hN I hi ok hg (ht pins σ) he hs (lc_weak t hsub _ _ _ h) fun D C s' m H' I' q hn f => ⟨m, hn, fun h'' sb => ?_⟩
  obtain ⟨f0, f1, f2, f3, f4, f5⟩ := f
  exact ⟨.ref D, H', I'.turned (t' := s'.toks) (fun b o hb e => (sb.2 b hb).trans e) f0 f1 f3 f4 f5, rfl, q⟩
end
end DV
end
section
set_option Elab.async false
set_option linter.all false
set_option maxRecDepth 100000
set_option maxHeartbeats 2000000
namespace DV
open PySem L2 PyProof.Rows PySem.Spec LamX

/-! ### a def whose frame makes lambdas -/
def clS (ms : MS) : MS := fun σ h => match ms σ h with
  | .ok (.rt d) h' => if nCl d = true ∧ nClH h' = true then .ok (.rt d) h' else .stuck
  | _ => .stuck
section
variable {X X' : Cx} {g : DV.G} {W : WX} {tab : List LamT}
theorem LR.toCl {F : Kn} {ι : List Addr} {σ : AS} {σv : L2.St} (hn : ∀ k a o c u, ¬ g.Cl k a o c u) (lr : LR g F ι σ σv) : LR (g.cl X tab) F ι σ σv :=
  ⟨lr.1, fun i d e => let ⟨v, e', q⟩ := lr.2 i d e; ⟨v, e', VR.toCl hn _ _ q⟩⟩
theorem sm_cl {b : List Stmt} {ms : MS} (hn : ∀ k a o c u, ¬ g.Cl k a o c u) (h : PSs X' b (tS (g.cl X tab) W ms)) : PSs X' b (tS g W (clS ms)) := by
  refine ⟨fun pins s σ H D I hq => h.run pins s σ H D I ?_⟩
  obtain ⟨F, ι, σa, h0, hr, lr, p⟩ := hq
  refine ⟨F, ι, σa, h0, hr.toCl hn, lr.toCl hn, ?_⟩
  unfold clS at p
  revert p
  cases ms σa h0 with
  | exc c σ h' => exact fun p => p.elim
  | stuck => exact fun p => p.elim
  | ok f h' =>
    cases f with
    | nx σ => exact fun p => p.elim
    | bk σ => exact fun p => p.elim
    | ct σ => exact fun p => p.elim
    | rt d =>
      dsimp only
      intro p F' ι' H' l hr'
      split at p
      · rename_i c
        exact fun v rv => p F' ι' H' l (hr'.ofCl c.2) v (VR.ofCl _ _ c.1 rv)
      · exact p.elim
theorem sm_clX {b : List Stmt} {ms : MS} (hn : ∀ k a o c u, ¬ g.Cl k a o c u) (h : PSs X b (tS (g.cl X tab) W ms)) : PSs X b (tS g W (clS ms)) := sm_cl hn h
/-- the lambdas of a frame, one by one -/
def LamOne (X : Cx) (g : G) (tab : List LamT) (k0 : Nat) (e : LamT) (m : ME) : Prop := LamS X.env.scope e.2.2 ∧ (∀ (q : Str) (cl : List (Str × Addr)) (pm cv ctv : Value), bindArgs (PySem.W.kla_fn "<lambda>" q e.1 e.2.1 e.2.2 cl pm cv ctv) ⟨[], []⟩ = pure []) ∧
  ∀ (A : Around) (outer : List Env) (s : Shared) (H : Hp) (E : XK) (f c' : Addr), Room k0 (lamCx X A outer s H E e.2.2 f c').A → Takes (lamCx X A outer s H E e.2.2 f c') (WF E) → PE (lamCx X A outer s H E e.2.2 f c') e.2.1 (tE (g.cl X tab) (WF E) m)
def LamsL (X : Cx) (g : G) (tab : List LamT) (k0 : Nat) : List LamT → List ME → Prop
  | [], _ => True
  | e :: es, ms => ∃ m ms', ms = m :: ms' ∧ LamOne X g tab k0 e m ∧ LamsL X g tab k0 es ms'
theorem LamsL.cons {k0 : Nat} {e : LamT} {es : List LamT} {m : ME} {ms : List ME} (a : LamOne X g tab k0 e m) (b : LamsL X g tab k0 es ms) : LamsL X g tab k0 (e :: es) (m :: ms) := ⟨m, ms, rfl, a, b⟩
theorem LamsL.nil {k0 : Nat} {ms : List ME} : LamsL X g tab k0 [] ms := trivial
theorem LamsL.at {k0 : Nat} : ∀ {es : List LamT} {ms : List ME}, LamsL X g tab k0 es ms → ∀ (k : Nat) (e : LamT), es[k]? = some e → LamOne X g tab k0 e (ms.getD k mStuck)
  | [], _, _, k, e, h => by simp at h
  | e0 :: es, _, ⟨m, ms', rfl, a, b⟩, 0, e, h => by
    simp at h
    subst h
    exact a
  | e0 :: es, _, ⟨m, ms', rfl, a, b⟩, k + 1, e, h => LamsL.at (es := es) b k e (by simpa using h)
theorem LamsL.ok {k0 : Nat} {ms : List ME} (h : LamsL X g tab k0 tab ms) : LamsOk X g tab k0 fun k => ms.getD k mStuck := fun k e hk => by
  obtain ⟨a, b, c⟩ := h.at k e hk
  exact ⟨a, b, fun A outer s H E f c' hr => c A outer s H E f c' hr (takes_of rfl rfl rfl rfl)⟩
theorem EV.exm {M : Md} {w : World} {K : PySem.W.Frag} {mg : Str → Option Value} {base h : Heap} (E : EV M w K mg base h) (i : Nat) {x y : Str} {b : Bool} (e : M.fa[i]? = some (.exm x y b) := by rfl) : PySem.W.exmOne K (.ref (He.ga K x)) (.ref (He.ga K y)) = some b := He.exm_ok (E.fact i e)
theorem pts_toldE {M : Md} {w : World} {h : Heap} {pins : List (Addr × Obj)} {σ : L2.St} {s0 : Shared} {H0 : Hp} {sc : Scope} {cenv : Env} {fp : List Addr} {x a v e ret : Str} {k0 j c0 jj jr : Nat} {pg : Arguments} {bg : List Stmt} {sg : Scope} {Ng : List Str} {lm : Nat → ME} {vs : List Nat} {p p' pos pc pos2 p1 p2 p3 p4 p5 p6 p7 p8 : Pos}
    (E : EV M w X.K X.mg X.base h) (i : Nat) (hi : M.fn[i]? = some ⟨(x, none), x, x, pg, bg, sg, [], []⟩)
    (hbg : bg = [.Try [.Return (some (.Call (.Name a p1) [] [] p2)) p3] [.ExceptHandler (some (.Name e p4)) none [.Return (some (.Constant (.str ret) jr p5)) p6] p7] [] [] p8])
    (hps : ∀ (kV doc pm : Value) (an : Option Addr) (cdv ct : Value) (us : List Value), us.length = [a].length → bindArgs (PySem.W.fnOf x x pg bg sg .none kV doc pm an cdv ct) ⟨us, []⟩ = pure ([a].zip us))
    (hm : X.mg x = some (.ref (He.fAd X.K (x, none)))) (Sg : FnScope Ng [a] sg) (hNg : Ng[0]? = some a) (hva : Vis sg a) (hge : sg.names.lookup e = some .globalImplicit) (hme : X.mg e = some (.ref (g.exc c0)))
    (hex : PySem.W.exmOne X.K (.ref (g.exc c0)) (.ref (g.exc c0)) = some true) (h0 : ∀ f : Addr, (L2.start Ng [V.ref f])[0]? = some (some (V.ref f)))
    (back : ∀ pins' σ' H' s', Inv (X.blk s0 H0 sc cenv fp) pins' σ' H' s' → Inv X pins σ H' s') (LM : LamsOk X g tab k0 lm) (hr : Room (k0 + 2) X.A)
    (hg : Gl (X.blk s0 H0 sc cenv fp) x) (hN : X.N[j]? = some v) (hv : Vis cenv.scope v) (hm2 : behindInMarks .NotEq (.Constant (.str ret) jj pc) = false)
    (hde : (e == ("__debug__" : Str)) = false := by decide) (hdb : (x == ("__debug__" : Str)) = false := by decide) (hd : (a == ("__debug__" : Str)) = false := by decide) (hcd : (a == ("__classdict__" : Str)) = false := by decide) (hd2 : (v == ("__debug__" : Str)) = false := by decide) (hcd2 : (v == ("__classdict__" : Str)) = false := by decide) :
    PTs (X.blk s0 H0 sc cenv fp) [.Compare (.Call (.Name x p) [.Name v p'] [] pos) [.NotEq] [.Constant (.str ret) jj pc] pos2] (fun σ2 H Q => wipe σ2 vs = wipe σ vs ∧ tT (g.cl X tab) W0 (mToldL j vs lm c0) σ2 H Q) := by
  obtain ⟨fd, F⟩ := E.c.t.d.def_ i hi
  have F0 : FunD X.K x x pg bg sg [] [] (He.fAd X.K (x, none)) fd := F
  have b := FunD.bindsA (ps := [a]) F0 hps
  obtain ⟨oc, od, dV, kV, doc, pm, an, cdv, ct, osl, rfl, lk, hcd', _, _⟩ := F0.ex
  subst hbg
  refine pts_told hex (pe_told back LM hg hm F0.kp lk hcd' (fun s us _ hl => by rw [List.append_nil] at hl ⊢; exact b s us hl) Sg hNg hva ?_ hr hN hv hdb hd hcd hd2 hcd2) hm2
  exact told_gives (X := X.blk s0 H0 sc cenv fp) hge hme hde h0
end
/-- lambdas in a list in a statement -/
def lamL (s : Stmt) : List Expr := match s with
  | .Assign _ (.List es _) _ => es
  | .Assign _ (.BinOp _ _ (.List es _) _) _ => es
  | _ => []
def lamAt (b : List Stmt) (i j : Nat) : LamT := match (lamL (b.getD i (.Pass ⟨0, 0, 0, 0⟩))).getD j (.List [] ⟨0, 0, 0, 0⟩) with
  | .Lambda p e s _ => (p, e, s)
  | e => (⟨[], [], none, [], [], none, []⟩, e, ⟨.function, [], false, false, []⟩)
end DV
end
section
set_option Elab.async false
set_option linter.all false
set_option maxRecDepth 100000
set_option maxHeartbeats 2000000
namespace DV
open PySem PySem.Calls PyProof.Rows PySem.Spec PySem.W

/-! ### list(zip(a, b)), the heap's side -/
theorem zip_no_len : typeLookup (.type "zip") "__len__" = pure none := by rw [typeLookup_type, builtinLookup_eq_fast]; kernel_rfl
theorem zip_no_hint : typeLookup (.type "zip") "__length_hint__" = pure none := by rw [typeLookup_type, builtinLookup_eq_fast]; kernel_rfl
/-- the zip's state, at turn i -/
def ZSt (h : Heap) (z TI TO i1 i2 l1 l2 S : Addr) (xs ys : Array Value) (i : Nat) : Prop :=
  IsPair h TI (.ref i1) (.ref i2) ∧ h.IsListIter i1 l1 i ∧ h.IsListIter i2 l2 i ∧ h.IsList l1 xs ∧ h.IsList l2 ys ∧
    ((IsZip h z TI TO .none ∧ ∃ a b, IsPair h TO a b) ∨ ∃ T f oT, IsZipHeld h z TI TO T f ∧ h.get? T = some oT ∧ T ≠ z ∧ T ≠ i1 ∧ T ≠ i2 ∧ T ≠ S)
structure ZOut (xs ys : Array Value) (lo : Addr) (h : Heap) (as : List Addr) : Prop where
  rise : as.Pairwise (· < ·)
  above : ∀ a ∈ as, lo < a
  pairs : ∀ (j : Nat) (a : Addr), as[j]? = some a → ∃ x y, xs[j]? = some x ∧ ys[j]? = some y ∧ h.get? a = some { cls := .type "tuple", data := .seq #[x, y] }
theorem ZOut.there {xs ys : Array Value} {lo : Addr} {h : Heap} {as : List Addr} (g : ZOut xs ys lo h as) {a : Addr} (ha : a ∈ as) : a < h.objs.size := by
  obtain ⟨j, hj⟩ := List.mem_iff_getElem?.mp ha
  obtain ⟨_, _, _, _, e⟩ := g.pairs j a hj
  exact Heap.lt_size e
theorem ZSt.keep {h h' : Heap} {z TI TO i1 i2 l1 l2 S : Addr} {xs ys : Array Value} {i : Nat} (st : ZSt h z TI TO i1 i2 l1 l2 S xs ys i) (hS : ∀ b ∈ [z, TI, TO, i1, i2, l1, l2], b ≠ S) (k : ∀ b o, b ≠ S → h.get? b = some o → h'.get? b = some o) : ZSt h' z TI TO i1 i2 l1 l2 S xs ys i := by
  obtain ⟨hTI, h1, h2, hl1, hl2, hz⟩ := st
  refine ⟨k _ _ (hS TI (by simp)) hTI, h1.at fun o e => k _ o (hS i1 (by simp)) e, h2.at fun o e => k _ o (hS i2 (by simp)) e, hl1.at fun o e => k _ o (hS l1 (by simp)) e, hl2.at fun o e => k _ o (hS l2 (by simp)) e, ?_⟩
  rcases hz with ⟨hz, a, b, hTO⟩ | ⟨T, f, oT, hz, hT, r1, r2, r3, r4⟩
  · exact .inl ⟨k _ _ (hS z (by simp)) hz, a, b, k _ _ (hS TO (by simp)) hTO⟩
  · exact .inr ⟨T, f, oT, k _ _ (hS z (by simp)) hz, k _ _ r4 hT, r1, r2, r3, r4⟩
section
variable {prog : Program} {w : World} {A : Around} {E : Value → Shared → Prop} {s : Shared} {z TI TO i1 i2 l1 l2 S : Addr} {xs ys : Array Value} {i : Nat}
theorem zl_item {x y : Value} {Q : Option Value → Shared → Prop} (D : ZipApart z TI TO i1 i2 l1 l2) (st : ZSt s.heap z TI TO i1 i2 l1 l2 S xs ys i) (ex : xs[i]? = some x) (ey : ys[i]? = some y) (hS : S < s.heap.objs.size)
    (hQ : ∀ h', ZSt h' z TI TO i1 i2 l1 l2 S xs ys (i + 1) → IsPair h' s.heap.objs.size x y → (∀ c o, c ∉ [z, TO, i1, i2] → s.heap.get? c = some o → h'.get? c = some o) → Q (some (.ref s.heap.objs.size)) { s with heap := h' }) :
    wpAny (model prog w) A (pyNext (.ref z)) Q E s := by
  obtain ⟨hTI, h1, h2, hl1, hl2, hz⟩ := st
  have lt : ∀ {c o}, s.heap.get? c = some o → s.heap.objs.size ≠ c := fun e => Nat.ne_of_gt (Heap.lt_size e)
  have n1 : s.heap.objs.size ≠ i1 := let ⟨_, e, _⟩ := h1; lt e
  have n2 : s.heap.objs.size ≠ i2 := let ⟨_, e, _⟩ := h2; lt e
  rcases hz with ⟨hz, a, b, hTO⟩ | ⟨T, f, oT, hz, hT, r1, r2, r3, r4⟩
  · refine wpAny_pyNext_zip_item D hz hTI hTO h1 h2 hl1 hl2 ex ey fun h' a1 a2 a3 a4 a5 a6 hk => ?_
    exact hQ h' ⟨hk _ _ D.TIz D.TITO D.TIi1 D.TIi2 hTI, a3, a4, hl1.at fun o e => hk _ o D.l1z D.l1TO D.l1i1 D.l1i2 e, hl2.at fun o e => hk _ o D.l2z D.l2TO D.l2i1 D.l2i2 e,
        .inr ⟨s.heap.objs.size, false, _, a1, a5, lt hz, n1, n2, Nat.ne_of_gt hS⟩⟩ a5 fun c o hc e => hk c o (fun x => hc (by simp [x])) (fun x => hc (by simp [x])) (fun x => hc (by simp [x])) (fun x => hc (by simp [x])) e
  · refine wpAny_pyNext_zip_item_held D hz hT hTI h1 h2 hl1 hl2 ex ey fun h' a1 a3 a4 a5 a6 hk => ?_
    exact hQ h' ⟨hk _ _ D.TIz D.TIi1 D.TIi2 hTI, a3, a4, hl1.at fun o e => hk _ o D.l1z D.l1i1 D.l1i2 e, hl2.at fun o e => hk _ o D.l2z D.l2i1 D.l2i2 e,
        .inr ⟨T, true, oT, a1, hk _ _ r1 r2 r3 hT, r1, r2, r3, r4⟩⟩ a5 fun c o hc e => hk c o (fun x => hc (by simp [x])) (fun x => hc (by simp [x])) (fun x => hc (by simp [x])) e
theorem zl_done {Q : Option Value → Shared → Prop} (hh : A.handled = none) (D : ZipApart z TI TO i1 i2 l1 l2) (st : ZSt s.heap z TI TO i1 i2 l1 l2 S xs ys i) (he : xs[i]? = none ∨ ys[i]? = none)
    (hQ : ∀ h', (∀ c o, c ∉ [z, TO, i1, i2] → s.heap.get? c = some o → h'.get? c = some o) → Q none { s with heap := h' }) : wpAny (model prog w) A (pyNext (.ref z)) Q E s := by
  obtain ⟨hTI, h1, h2, hl1, hl2, hz⟩ := st
  rcases hz with ⟨hz, a, b, hTO⟩ | ⟨T, f, oT, hz, hT, r1, r2, r3, r4⟩
  · exact wpAny_pyNext_zip_end hh D hz hTI hTO h1 h2 hl1 hl2 he fun h' hk => hQ h' fun c o hc e => hk c o (fun x => hc (by simp [x])) (fun x => hc (by simp [x])) (fun x => hc (by simp [x])) (fun x => hc (by simp [x])) e
  · exact wpAny_pyNext_zip_end_held hh D hz hT hTI h1 h2 hl1 hl2 he fun h' hk => hQ h' fun c o hc e => hk c o (fun x => hc (by simp [x])) (fun x => hc (by simp [x])) (fun x => hc (by simp [x])) e
end
section
variable {prog : Program} {w : World} {A : Around} {s : Shared} {R : Result → Shared → Prop} {z TI TO i1 i2 l1 l2 S : Addr} {xs ys : Array Value}
theorem zl_loop (hh : A.handled = none) (D : ZipApart z TI TO i1 i2 l1 l2) (hlt : ∀ b ∈ [z, TI, TO, i1, i2, l1, l2], b < S) (hn : xs.size ≤ sizeLine) (res : Value) {h₁ : Heap}
    (hR : ∀ h' tk acc c as, (∀ b o, b ≠ S → b ∉ [z, TO, i1, i2] → h₁.get? b = some o → h'.get? b = some o) → h'.get? S = some { cls := .type "list", dict := none, data := .seq acc c, slots := #[] } → as.length = min xs.size ys.size → ZOut xs ys S h' as →
      acc.toList = as.map Value.ref → R (.ok (.ret res)) { s with heap := h', toks := tk }) :
    ∀ (k i : Nat) (h : Heap) (tk c : Nat) (acc : Array Value) (as : List Addr), min xs.size ys.size - i = k → i ≤ min xs.size ys.size → ZSt h z TI TO i1 i2 l1 l2 S xs ys i → (∀ b o, b ≠ S → b ∉ [z, TO, i1, i2] → h₁.get? b = some o → h.get? b = some o) →
      h.get? S = some { cls := .type "list", dict := none, data := .seq acc c, slots := #[] } → acc.toList = as.map Value.ref → as.length = i → ZOut xs ys S h as →
      codeAny (model prog w) A (.builtin "list.extend.loop" ⟨[.ref S, .ref z, res], []⟩) R { s with heap := h, toks := tk } := by
  have hSn : S ∉ [z, TO, i1, i2] := fun hm => by
    have : S < S := hlt S (by simp at hm ⊢; rcases hm with e | e | e | e <;> simp [e])
    exact Nat.lt_irrefl _ this
  have nin : ∀ b, S < b → b ∉ [z, TO, i1, i2] := fun b hb hm => by
    have : b < S := hlt b (by simp at hm ⊢; rcases hm with e | e | e | e <;> simp [e])
    exact Nat.lt_irrefl _ (Nat.lt_trans hb this)
  have hSne : ∀ b ∈ [z, TI, TO, i1, i2, l1, l2], b ≠ S := fun b hb => Nat.ne_of_lt (hlt b hb)
  intro k
  induction k with
  | zero =>
    intro i h tk c acc as hk hi hst hkeep hS hacc hal hG
    have hin : i = min xs.size ys.size := by omega
    have he : xs[i]? = none ∨ ys[i]? = none := by
      rcases Nat.le_total xs.size ys.size with q | q
      · exact .inl (Array.getElem?_eq_none (by omega))
      · exact .inr (Array.getElem?_eq_none (by omega))
    refine codeAny_builtin PySem.F.entry_extend_loop ?_
    rw [Around.under_plainId PySem.F.plain_extend_loop _]
    show wpAny _ A.in1 (pyNext (.ref z) >>= _) _ _ _
    refine wpAny_bind (zl_done (s := { s with heap := h, toks := tk }) (A := A.in1) hh D hst he fun h' hk' => ?_)
    refine wpAny_pure (hR h' tk acc c as (fun b o h1 h2 e => hk' b o h2 (hkeep b o h1 h2 e)) (hk' S _ hSn hS) (by omega) ⟨hG.rise, hG.above, fun j a hj => ?_⟩ hacc)
    obtain ⟨x, y, e1, e2, e3⟩ := hG.pairs j a hj
    exact ⟨x, y, e1, e2, hk' a _ (nin a (hG.above a (List.mem_of_getElem? hj))) e3⟩
  | succ k ih =>
    intro i h tk c acc as hk hi hst hkeep hS hacc hal hG
    have hlt1 : i < xs.size := by omega
    have hlt2 : i < ys.size := by omega
    have ex := Array.getElem?_eq_getElem hlt1
    have ey := Array.getElem?_eq_getElem hlt2
    have hsz : acc.size = i := by rw [← Array.length_toList, hacc, List.length_map, hal]
    refine codeAny_builtin PySem.F.entry_extend_loop ?_
    rw [Around.under_plainId PySem.F.plain_extend_loop _]
    show wpAny _ A.in1 (pyNext (.ref z) >>= _) _ _ _
    refine wpAny_bind (zl_item (s := { s with heap := h, toks := tk }) D hst ex ey (Heap.lt_size hS) fun h' hst' ht hkp => ?_)
    dsimp only at ht hkp ⊢
    have hS' := hkp S _ hSn hS
    have up : ∀ b o, b ≠ S → h'.get? b = some o → (h'.update S (Obj.mapSeq (·.push (Value.ref h.objs.size)))).get? b = some o := fun b o hb e => (Heap.get?_update_other _ _ (Ne.symm hb)).trans e
    have hSl : S < h.objs.size := Heap.lt_size hS
    show wpAny _ A.in1 (updateSeq S (·.push (Value.ref h.objs.size)) >>= _) _ _ _
    refine wpAny_bind ?_
    refine wpAny_updateSeq hS' rfl (wpAny_pure ⟨plainId_quiet PySem.F.plain_extend_loop _, ih (i + 1) _ tk _ (acc.push (Value.ref h.objs.size)) (as ++ [h.objs.size]) (by omega) (by omega) (hst'.keep hSne up)
      (fun b o h1 h2 e => up b o h1 (hkp b o h2 (hkeep b o h1 h2 e))) (Heap.get?_update_self _ hS' rfl) (by rw [Array.toList_push, hacc, List.map_append]; rfl) (by rw [List.length_append, hal]; rfl) ⟨?_, ?_, ?_⟩⟩) (by rw [hsz]; omega) (by show (acc.push (Value.ref h.objs.size)).size ≤ sizeLine + 1; rw [Array.size_push, hsz]; omega)
    · refine List.pairwise_append.mpr ⟨hG.rise, List.pairwise_singleton _ _, fun a ha b hb => ?_⟩
      rw [List.mem_singleton.mp hb]
      exact hG.there ha
    · intro a ha
      rcases List.mem_append.mp ha with ha | ha
      · exact hG.above a ha
      · rw [List.mem_singleton.mp ha]; exact hSl
    · intro j b hj
      rcases Nat.lt_trichotomy j as.length with h1 | h1 | h1
      · rw [List.getElem?_append_left h1] at hj
        obtain ⟨x, y, e1, e2, e3⟩ := hG.pairs j b hj
        have hb := hG.above b (List.mem_of_getElem? hj)
        exact ⟨x, y, e1, e2, up b _ (Nat.ne_of_gt hb) (hkp b _ (nin b hb) e3)⟩
      · subst h1
        have hb : h.objs.size = b := by simpa using hj
        subst hb
        exact ⟨_, _, by rw [hal]; exact ex, by rw [hal]; exact ey, up _ _ (Nat.ne_of_gt hSl) ht⟩
      · have hnone : (as ++ [h.objs.size])[j]? = none := List.getElem?_eq_none (by rw [List.length_append, List.length_singleton]; omega)
        rw [hnone] at hj; cases hj
end
section
variable {prog : Program} {w : World} {A : Around} {E : Value → Shared → Prop} {s : Shared} {l1 l2 : Addr} {xs ys : Array Value}
theorem zl_call {z TI TO i1 i2 : Addr} {Q : Value → Shared → Prop} (hh : A.handled = none) (D : ZipApart z TI TO i1 i2 l1 l2) (hz : IsZip s.heap z TI TO .none) (hTI : IsPair s.heap TI (.ref i1) (.ref i2)) (hTO : ∃ a b, IsPair s.heap TO a b) (h1 : s.heap.IsListIter i1 l1 0) (h2 : s.heap.IsListIter i2 l2 0)
    (hl1 : s.heap.IsList l1 xs) (hl2 : s.heap.IsList l2 ys) (hn : xs.size ≤ sizeLine)
    (hQ : ∀ h' tk acc c as, (∀ b o, b ∉ [z, TO, i1, i2] → s.heap.get? b = some o → h'.get? b = some o) → h'.get? s.heap.objs.size = some { cls := .type "list", dict := none, data := .seq acc c, slots := #[] } → as.length = min xs.size ys.size → ZOut xs ys s.heap.objs.size h' as →
      acc.toList = as.map Value.ref → Q (.ref s.heap.objs.size) { s with heap := h', toks := tk }) :
    wpAny (model prog w) A (call (.type "list") [.ref z]) Q E s := by
  have hlt : ∀ b ∈ [z, TI, TO, i1, i2, l1, l2], b < s.heap.objs.size := fun b hb => by
    simp at hb
    obtain ⟨a, b', hTO⟩ := hTO
    rcases hb with e | e | e | e | e | e | e <;> subst e
    · exact Heap.lt_size hz
    · exact Heap.lt_size hTI
    · exact Heap.lt_size hTO
    · obtain ⟨_, e, _⟩ := h1; exact Heap.lt_size e
    · obtain ⟨_, e, _⟩ := h2; exact Heap.lt_size e
    · obtain ⟨_, e, _⟩ := hl1; exact Heap.lt_size e
    · obtain ⟨_, e, _⟩ := hl2; exact Heap.lt_size e
  have hSz : s.heap.objs.size ≠ z := Nat.ne_of_gt (hlt z (by simp))
  refine callType_codes (Q₁ := fun obj s₁ => obj = .ref s.heap.objs.size ∧ s₁ = { s with heap := s.heap.push { cls := .type "list", data := .seq #[] } }) PySem.F.called_list (PySem.F.typeCall_list_1 _) PySem.F.entry_list_init
    (code_list_new _ ⟨rfl, rfl⟩) fun obj s₁ h₁ => ?_
  obtain ⟨rfl, rfl⟩ := h₁
  have hS : (s.heap.push { cls := .type "list", data := .seq #[] }).get? s.heap.objs.size = some { cls := .type "list", data := .seq #[] } := Heap.get?_push_size _ rfl
  refine ⟨⟨_, hS, rfl⟩, PySem.F.args_list_init_2 _ _, ?_⟩
  show wpAny _ A.in1.in1 (do let old ← Builtin.List.listItems (.ref s.heap.objs.size); Builtin.List.listUpdate (.ref s.heap.objs.size) (fun _ => #[]); letGo old.toList.reverse; Builtin.List.listExtendWith (.ref s.heap.objs.size) (.ref z) .none) _ _ _
  refine wpAny_bind ?_
  unfold Builtin.List.listItems
  refine wpAny_bind (wpAny_seqItems hS rfl (wpAny_pure ?_))
  show wpAny _ A.in1.in1 (updateSeq s.heap.objs.size (fun _ => #[]) >>= fun _ => letGo (#[] : Array Value).toList.reverse >>= fun _ => Builtin.List.listExtendWith (.ref s.heap.objs.size) (.ref z) .none) _ _ _
  refine wpAny_bind (wpAny_updateSeq hS rfl ?_)
  have hS2 := Heap.get?_update_self (Obj.mapSeq (fun _ => (#[] : Array Value))) hS rfl
  refine wpAny_bind (wpAny_letGo ?_)
  unfold Builtin.List.listExtendWith
  have up : ∀ (h : Heap) (f : Obj → Obj), (∀ b o, s.heap.get? b = some o → h.get? b = some o) → ∀ b o, s.heap.get? b = some o → (h.update s.heap.objs.size f).get? b = some o := fun h f q b o e =>
    (Heap.get?_update_other _ _ (Ne.symm (Nat.ne_of_lt (Heap.lt_size e)))).trans (q b o e)
  have k1 : ∀ b o, s.heap.get? b = some o → (s.heap.push { cls := .type "list", data := .seq #[] }).get? b = some o := fun b o e => Heap.get?_push_of_some _ e
  have k2 := up _ (Obj.mapSeq (fun _ => (#[] : Array Value))) k1
  have ty : ∀ {h : Heap} {tk : Nat}, (∀ b o, s.heap.get? b = some o → h.get? b = some o) → Shared.TypeIs { s with heap := h } (.ref z) "zip" := fun {h tk} q => ⟨_, q _ _ hz, rfl⟩
  refine wpAny_bind (wpAny_typeOf (ty (tk := 0) k2) ?_)
  have h1' : Builtin.List.listSameRef (.ref s.heap.objs.size) (.ref z) = false := by simp [Builtin.List.listSameRef, hSz]
  have h2' : (Value.type "zip" == Value.type "list") = false := by decide
  have h3' : (Value.type "zip" == Value.type "tuple") = false := by decide
  simp only [h1', h2', h3', Bool.or_false, Bool.false_eq_true, if_false]
  refine wpAny_bind (wpAny_pyIter_zip (s := { s with heap := _ }) (k2 _ _ hz) ?_)
  refine wpAny_bind (wpAny_holding ?_)
  unfold Builtin.List.listLengthHint
  refine wpAny_bind (wpAny_specialOf (ty (tk := 0) k2) zip_no_len ?_)
  show wpAny _ A.in1.in1 (specialOf (Value.ref z) (Str.ofString "__length_hint__") >>= _) _ _ _
  refine wpAny_bind (wpAny_specialOf (ty (tk := 0) k2) zip_no_hint ?_)
  refine wpAny_pure ?_
  show wpAny _ A.in1.in1 (rule "list.extend.makes-room" >>= fun _ => Builtin.List.listTouch (.ref s.heap.objs.size) >>= fun _ =>
    again (.builtin "list.extend.loop" ⟨[.ref s.heap.objs.size, .ref z, .none], []⟩)) _ _ _
  refine wpAny_bind (wpAny_rule ?_)
  refine wpAny_bind ?_
  show wpAny _ A.in1.in1 (updateSeq s.heap.objs.size (·.push .none) >>= fun _ => updateSeq s.heap.objs.size (·.pop)) _ _ _
  refine wpAny_bind (wpAny_updateSeq hS2 rfl ?_)
  have hS3 := Heap.get?_update_self (Obj.mapSeq (·.push Value.none)) hS2 rfl
  refine wpAny_updateSeq (hz := by seq_fits) hS3 rfl ?_
  have hS4 := Heap.get?_update_self (Obj.mapSeq (·.pop)) hS3 rfl
  have k4 := up _ (Obj.mapSeq (·.pop)) (up _ (Obj.mapSeq (·.push Value.none)) k2)
  refine wpAny_pure ⟨plainId_quiet PySem.F.plain_extend_loop _, ?_⟩
  have st0 : ZSt s.heap z TI TO i1 i2 l1 l2 s.heap.objs.size xs ys 0 := ⟨hTI, h1, h2, hl1, hl2, .inl ⟨hz, hTO⟩⟩
  refine zl_loop (s := s) (h₁ := s.heap) (A := A.in1) hh D hlt hn .none (fun h' tk acc c as hk hS' hl hG hacc => ?_) (min xs.size ys.size) 0 _ s.toks _ #[] [] (Nat.sub_zero _) (Nat.zero_le _)
    (st0.keep (fun b hb => Nat.ne_of_lt (hlt b hb)) fun b o _ e => k4 b o e) (fun b o _ _ e => k4 b o e) hS4 rfl rfl ⟨List.Pairwise.nil, (fun _ ha => nomatch ha), (fun j a hj => by simp at hj)⟩
  exact ⟨rfl, hQ h' tk acc c as (fun b o hb e => hk b o (Nat.ne_of_lt (Heap.lt_size e)) hb e) hS' hl hG hacc⟩
end
end DV
end
section
set_option Elab.async false
set_option linter.all false
set_option maxRecDepth 100000
set_option maxHeartbeats 2000000
namespace DV
open PySem L2 PyProof.Rows PySem.Spec

/-! ### list(zip(a, b)) -/
def updL (H : Hp) : List (Addr × HO) → Hp
  | [] => H
  | (a, o) :: r => updL (upd H a o) r
theorem updL_ne {a : Addr} : ∀ {l : List (Addr × HO)} {H : Hp}, (∀ q ∈ l, q.1 ≠ a) → updL H l a = H a
  | [], H, _ => rfl
  | (b, o) :: r, H, h => by
    show updL (upd H b o) r a = H a
    rw [updL_ne fun q hq => h q (List.mem_cons_of_mem _ hq), upd_ne (Ne.symm (h (b, o) List.mem_cons_self))]
section
variable {X : Cx} {pins : List (Addr × Obj)} {σ : L2.St} {H : Hp} {s : Shared}
theorem inv_know {a : Addr} {o : HO} (I : L2.Inv X pins σ H s) (hf : FpOk X pins H a) (new : ObjOk X.prog X.w (upd H a o) s.heap a o) : L2.Inv X pins σ (upd H a o) s := by
  have hn := hf.1
  refine I.step (h' := s.heap) (g' := s.gens) (d' := s.drawn) (t' := s.toks) (ch := [a]) (fun b hb => ?_) (fun b o _ _ _ e _ => e) (fun b o _ _ _ e _ => ⟨o.slots, e⟩)
    (fun b o hc e n => ?_) (fun b o _ e => ⟨o, e⟩) (fun b xs e => ?_) (fun b o u e => ?_) (fun b ps e => ⟨#[], ?_⟩) (fun m hm => hm) (fun b u e => ?_) I.bare
  · rw [List.mem_singleton.mp hb]
    exact ⟨hf.2.2.2.1, hf.2.1, hf.2.2.2.2.1, hf.2.2.2.2.2⟩
  · rw [upd_ne (fun z => hc (by simp [z]))]; exact n
  · rw [upd_ne (ne_of_none e hn)]; exact e
  · rw [upd_ne (ne_of_none e hn)]; exact e
  · rw [upd_ne (ne_of_none e hn), e]; simp
  · by_cases hb : b = a
    · subst hb
      rw [upd_same] at e
      cases e
      exact new
    · rw [upd_ne hb] at e
      exact (I.hok b u e).stay (fun c v hc q => q) (fun c q => by rw [upd_ne (ne_of_none q hn)]; exact q) fun c xs q => by rw [upd_ne (ne_of_none q hn)]; exact q
theorem inv_knowL : ∀ {l : List (Addr × HO)} {H : Hp}, L2.Inv X pins σ H s → (l.map (·.1)).Nodup → (∀ q ∈ l, FpOk X pins H q.1) → (∀ q ∈ l, ∀ H', ObjOk X.prog X.w H' s.heap q.1 q.2) → L2.Inv X pins σ (updL H l) s
  | [], H, I, _, _, _ => I
  | (a, o) :: r, H, I, nd, hf, new => by
    obtain ⟨n1, n2⟩ := List.nodup_cons.mp nd
    refine inv_knowL (l := r) (inv_know I (hf _ List.mem_cons_self) (new _ List.mem_cons_self _)) n2 (fun q hq => ⟨?_, (hf q (List.mem_cons_of_mem _ hq)).2⟩) fun q hq => new q (List.mem_cons_of_mem _ hq)
    rw [upd_ne (fun z => n1 (List.mem_map.mpr ⟨q, hq, z⟩))]
    exact (hf q (List.mem_cons_of_mem _ hq)).1
def zipO (as : List Addr) (xs ys : List V) : List (Addr × HO) := as.zip ((xs.zip ys).map fun p => HO.tup [p.1, p.2])
def tLz (K : PySem.W.Frag) (ta : TA) : TE := fun σ H Q => ta σ H fun vs H1 => ∃ a b xs ys, vs = [.ref a, .ref b] ∧ SqL K H1 a xs ∧ SqL K H1 b ys ∧
  ∀ (as : List Addr) (S : Addr), as.length = min xs.length ys.length → as.Nodup → (∀ T ∈ as, H1 T = none) → S ∉ as → H1 S = none → Q (.ref S) (upd (updL H1 (zipO as xs ys)) S (.lst (as.map V.ref)))
theorem pe_lzip {e e2 : Expr} {ta : TA} {p p2 pos pos2 : Pos} (hc : X.calm = true) (hg : Gl X "list") (hm : X.mg "list" = none) (hg2 : Gl X "zip") (hm2 : X.mg "zip" = none) (ha : PA X [e, e2] ta)
    (hs : starEach [e, e2] X.env = (false, eval e X.env) :: starEach [e2] X.env := by rfl) (hpl : (backTo pos (starEach [e2] X.env)).any (·.1) = false := by rfl) :
    PE X (.Call (.Name "list" p2) [.Call (.Name "zip" p) [e, e2] [] pos] [] pos2) (tLz X.K ta) := by
  refine ⟨fun pins s σ H Q I h => ?_⟩
  refine Call_ (ld_blt I hg hm boot_list (PyProof.Rows.callWith_type1 (Calls.spliced_cons ?_) (by rfl) (by rfl)))
  refine Call_ (ld_blt I hg2 hm2 PyProof.Rows.boot_zip (PyProof.Rows.callWith_type1 (thn (ha.run pos pins s σ H _ I h) fun us s1 ⟨vs, H1, I1, r1, q1⟩ => ?_) hs hpl))
  obtain ⟨a, b, xs, ys, ex, hqx, hqy, q⟩ := q1
  subst ex
  cases r1 with
  | cons r rr =>
    cases rr with
    | cons r' rr =>
      cases rr
      cases r
      cases r'
      obtain ⟨its, rv, p1, hz1⟩ := I1.list hqx
      obtain ⟨its2, rv2, p2, _⟩ := I1.list hqy
      refine call_zip_2 p1.isList p2.isList fun h' hz hTI hTO h1 h2 hsz hk => ?_
      have I2 : L2.Inv X pins σ H1 { s1 with heap := h' } := I1.kept (t' := s1.toks) hk
      refine Calls.spliced_nil ?_
      refine zl_call (s := { s1 with heap := h' }) (xs := its.toArray) (ys := its2.toArray) (I1.ok.hd hc) (PySem.W.ktu_apart s1.heap.objs.size a b p1.lt p2.lt) hz hTI ⟨_, _, hTO⟩ h1 h2 (p1.isList.at fun o e => hk _ o e) (p2.isList.at fun o e => hk _ o e) (by have := rv.length; simp; omega) fun h3 tk acc c as hk3 hS hl hG hacc => ?_
      dsimp only at hk3 hS hG ⊢
      have k3 : ∀ c o, s1.heap.get? c = some o → h3.get? c = some o := fun c o e => hk3 c o (fun hm => by
        have hlt := Heap.lt_size e
        simp at hm
        rcases hm with z | z | z | z <;> rw [z] at hlt <;> first | exact absurd hlt (Nat.not_lt.mpr (Nat.le_add_right _ _)) | exact absurd hlt (Nat.lt_irrefl _)) (hk c o e)
      have I3 : L2.Inv X pins σ H1 { s1 with heap := h3, toks := tk } := I1.kept (t' := tk) k3
      have fp : ∀ b, s1.heap.objs.size ≤ b → FpOk X pins H1 b := fun b hb => I1.fpOk hb (I1.hok.fresh hb)
      have hnd : as.Nodup := hG.rise.imp fun h => Nat.ne_of_lt h
      have habove : ∀ T ∈ as, s1.heap.objs.size ≤ T := fun T hT => Nat.le_trans (by rw [hsz]; exact Nat.le_add_right _ _) (Nat.le_of_lt (hG.above T hT))
      have hSs : s1.heap.objs.size ≤ h'.objs.size := by rw [hsz]; exact Nat.le_add_right _ _
      have lx := rv.length
      have ly := rv2.length
      have hl' : as.length = min xs.length ys.length := by rw [hl]; simp; omega
      have hkeys : (zipO as xs ys).map (·.1) = as := by
        unfold zipO
        rw [List.map_fst_zip]
        simp
        omega
      have hin : ∀ q ∈ zipO as xs ys, q.1 ∈ as := fun q hq => by
        rw [← hkeys]
        exact List.mem_map.mpr ⟨q, hq, rfl⟩
      have I4 : L2.Inv X pins σ (updL H1 (zipO as xs ys)) { s1 with heap := h3, toks := tk } := by
        refine inv_knowL I3 (by rw [hkeys]; exact hnd) (fun q hq => fp _ (habove _ (hin q hq))) fun q hq H' => ?_
        obtain ⟨j, hj⟩ := List.mem_iff_getElem?.mp hq
        unfold zipO at hj
        obtain ⟨qa, qo⟩ := q
        obtain ⟨j1, j2⟩ := List.getElem?_zip_eq_some.mp hj
        rw [List.getElem?_map] at j2
        cases hp : (xs.zip ys)[j]? with
        | none => rw [hp] at j2; cases j2
        | some pr =>
          rw [hp] at j2
          cases j2
          obtain ⟨j3, j4⟩ := List.getElem?_zip_eq_some.mp hp
          obtain ⟨x, y, e1, e2, e3⟩ := hG.pairs j qa j1
          obtain ⟨u, z1, z2⟩ := rv.get j3
          obtain ⟨u2, z3, z4⟩ := rv2.get j4
          have : x = u := by simp at e1; rw [z1] at e1; cases e1; rfl
          subst this
          have : y = u2 := by simp at e2; rw [z3] at e2; cases e2; rfl
          subst this
          exact ⟨by show 2 ≤ sizeLine; decide, [x, y], .cons z2 (.cons z4 .nil), ⟨_, e3, rfl, _, rfl⟩⟩
      have nS : h'.objs.size ∉ as := fun hm => Nat.lt_irrefl _ (hG.above _ hm)
      have I5 : L2.Inv X pins σ (upd (updL H1 (zipO as xs ys)) h'.objs.size (.lst (as.map V.ref))) { s1 with heap := h3, toks := tk } := by
        refine inv_know I4 ⟨?_, (fp _ hSs).2⟩ ⟨?_, acc.toList, c, ?_, ?_⟩
        · rw [updL_ne fun q hq z => nS (by rw [← z]; exact hin q hq)]
          exact I1.hok.fresh hSs
        · rw [List.length_map, hl']; omega
        · rw [hacc]
          clear hl hG hacc hl' hkeys hin I4 hnd habove nS
          induction as with
          | nil => exact .nil
          | cons a as ih => exact .cons rfl ih
        · simpa using hS
      exact ⟨.ref h'.objs.size, _, I5, rfl, q as _ hl' hnd (fun T hT => I1.hok.fresh (habove T hT)) nS (I1.hok.fresh hSs)⟩
end
/-! the plain side -/
def zipD : List D → List D → List D
  | x :: xs, y :: ys => .tup [x, y] :: zipD xs ys
  | _, _ => []
def lzD (mu : Bool) (d e : D) (h : AH) : Rv D := match d, e with
  | .tup _, _ => .stuck
  | _, .tup _ => .stuck
  | d, e => match getL h d, getL h e with | some xs, some ys => mkL mu (zipD xs ys) h | _, _ => .stuck
def mLz (mu : Bool) (r : MA) : ME := fun σ h => bindR (r σ h) fun xs h1 => match xs with | [x, y] => lzD mu x y h1 | _ => .stuck

section
variable {X : Cx} {g : G} {W : WX} {r : MA} {e e2 : Expr} {p p2 pos pos2 : Pos}
theorem HR.pairs (t : TiOk g) {h : AH} {ι : List Addr} : ∀ {xs ys : List D} {vs ws : List V} {as : List Addr} {F : Kn} {H : Hp}, HR g F ι h H → VRs g F ι xs vs → VRs g F ι ys ws → as.length = min vs.length ws.length → as.Nodup → (∀ T ∈ as, H T = none) →
    ∃ F', Le F ι F' ι ∧ HR g F' ι h (updL H (zipO as vs ws)) ∧ VRs g F' ι (zipD xs ys) (as.map V.ref)
  | [], ys, vs, ws, as, F, H, hr, r1, r2, hl, nd, hn => by
    simp only [VRs] at r1
    subst r1
    have : as = [] := List.eq_nil_of_length_eq_zero (by simpa using hl)
    subst this
    exact ⟨F, .refl, hr, by simp [zipD, VRs]⟩
  | x :: xs, [], vs, ws, as, F, H, hr, r1, r2, hl, nd, hn => by
    simp only [VRs] at r2
    subst r2
    have : as = [] := List.eq_nil_of_length_eq_zero (by simpa using hl)
    subst this
    exact ⟨F, .refl, hr, by simp [zipD, VRs]⟩
  | x :: xs, y :: ys, vs, ws, as, F, H, hr, r1, r2, hl, nd, hn => by
    simp only [VRs] at r1 r2
    obtain ⟨v, vs, rfl, rx, rxs⟩ := r1
    obtain ⟨w, ws, rfl, ry, rys⟩ := r2
    cases as with
    | nil => simp at hl
    | cons a as =>
      obtain ⟨n1, n2⟩ := List.nodup_cons.mp nd
      obtain ⟨F2, l2, hr2, rp⟩ := new_pair t hr (hn a List.mem_cons_self) rx ry
      obtain ⟨F3, l3, hr3, r3⟩ := HR.pairs t hr2 (VRs.mono l2 _ _ rxs) (VRs.mono l2 _ _ rys) (as := as) (by simp at hl ⊢; omega) n2 (fun T hT => by
        rw [upd_ne (fun z => n1 (by rw [← z]; exact hT))]
        exact hn T (List.mem_cons_of_mem _ hT))
      refine ⟨F3, l2.trans l3, hr3, ?_⟩
      simp only [zipD, VRs, List.map_cons]
      exact ⟨_, _, rfl, VR.mono l3 _ _ rp, r3⟩
theorem em_lzip (t : TiOk g) (mu : Bool) (hK : X.K = g.K) (hc : X.calm = true) (hg : Gl X "list") (hm : X.mg "list" = none) (hg2 : Gl X "zip") (hm2 : X.mg "zip" = none) (ha : PA X [e, e2] (tA g W r))
    (hs : starEach [e, e2] X.env = (false, eval e X.env) :: starEach [e2] X.env := by rfl) (hpl : (backTo pos (starEach [e2] X.env)).any (·.1) = false := by rfl) :
    PE X (.Call (.Name "list" p2) [.Call (.Name "zip" p) [e, e2] [] pos] [] pos2) (tE g W (mLz mu r)) := by
  refine PE_weak (pe_lzip hc hg hm hg2 hm2 ha hs hpl) ?_
  rintro σv H Q ⟨F, ι, σ, h, hr, lr, p⟩
  refine tM_bind (f := fun _ xs h1 => match xs with | [x, y] => lzD mu x y h1 | _ => .stuck) hr lr p fun F1 ι1 H1 xs h1 vs l hr1 lr1 r1 p1 => ?_
  split at p1
  · rename_i x y
    obtain ⟨v, u, rfl, rx, ry⟩ := two2 r1
    rw [hK]
    have big : lzD mu x y h1 = (match getL h1 x, getL h1 y with | some xs, some ys => mkL mu (zipD xs ys) h1 | _, _ => .stuck) →
        ∃ a b xs ys, [v, u] = [V.ref a, V.ref b] ∧ SqL g.K H1 a xs ∧ SqL g.K H1 b ys ∧
          ∀ (as : List Addr) (S : Addr), as.length = min xs.length ys.length → as.Nodup → (∀ T ∈ as, H1 T = none) → S ∉ as → H1 S = none → Q (.ref S) (upd (updL H1 (zipO as xs ys)) S (.lst (as.map V.ref))) := fun hz => by
      rw [hz] at p1
      split at p1
      · rename_i xs ys e1 e2
        obtain ⟨a, vs, rfl, q1, q2⟩ := getL_ok hr1 e1 rx
        obtain ⟨b, ws, rfl, q3, q4⟩ := getL_ok hr1 e2 ry
        refine ⟨a, b, vs, ws, rfl, q1, q3, fun as S hl nd hn nS hS => ?_⟩
        obtain ⟨F2, l2, hr2, r2⟩ := hr1.pairs t q2 q4 hl nd hn
        refine mkL_ok t hr2 r2 (p1.le l2) S ?_
        rw [updL_ne fun q hq z => nS (by
          rw [← z]
          have := List.of_mem_zip (l₁ := as) (a := q.1) (b := q.2) hq
          exact this.1)]
        exact hS
      · exact p1.elim
    cases x with
    | tup xs => cases y <;> exact p1.elim
    | _ => cases y with
      | tup ys => exact p1.elim
      | _ => exact big rfl
  · exact p1.elim
end
end DV
end
section
set_option Elab.async false
set_option linter.all false
set_option maxRecDepth 100000
set_option maxHeartbeats 2000000
namespace DV
open PySem L2 PyProof.Rows

/-! ### a def without parameters called, what stands on the heap forgotten -/
/-- (for a def that looks at nothing but its own: its mirror is then closed) -/
def mCallN (Fm : FM) : ME := fun _ h => match Fm [] [] with
  | .ok (.bl b) _ => .ok (.bl b) (List.replicate h.length none)
  | _ => .stuck
section
variable {X : Cx} {g : G} {W : WX} {pos p : Pos} {k : Nat} {f : Addr} {fd : FuncData} {Fm : FM} {x : Str}
theorem HR.forget {F : Kn} {ι ι' : List Addr} {h h' : AH} {H : Hp} (r : HR g F ι' h' H) (hl : ι.length = h.length) : HR g F ι (List.replicate h.length none) H := by
  have no : ∀ (n : Nat) (o : O), (List.replicate h.length (none : Option O))[n]? ≠ some (some o) := fun n o z => by
    have := List.mem_of_getElem? z
    simp at this
  refine ⟨r.fr, fun n o z => (no n o z).elim, fun n m a ⟨o, z⟩ => (no n o z).elim, by simp [hl], r.ti, fun q hq => ?_, r.pt⟩
  obtain ⟨p1, p2, _⟩ := r.pv q hq
  exact ⟨p1, p2, fun n o z => (no n o z).elim⟩
theorem HR.empty {F : Kn} {ι : List Addr} {h : AH} {H : Hp} (r : HR g F ι h H) : HR g F [] [] H := by
  refine ⟨r.fr, fun n o z => by simp at z, fun n m a ⟨o, z⟩ => by simp at z, rfl, r.ti, fun q hq => ?_, r.pt⟩
  obtain ⟨p1, p2, _⟩ := r.pv q hq
  exact ⟨p1, p2, fun n o z => by simp at z⟩
theorem em_callN (hK : X.K = g.K) (tk : Takes X W) (F : FnOk X.prog X.w X.K X.mg X.base (L2.CX X.prog X.w) k f fd [] (spF g 0 Fm)) (hr : Room k X.A) (hg : Gl X x) (hm : X.mg x = some (.ref f)) (hk : PySem.W.keepIn X.K (.ref f) = true)
    (hb : Binds X.K fd [] []) (hdb : (x == ("__debug__" : Str)) = false := by decide) :
    PE X (.Call (.Name x p) [] [] pos) (tE g W (mCallN Fm)) := by
  refine ⟨fun pins s σv H Q I hq => ?_⟩
  obtain ⟨F1, ι, σ, h, hr1, lr, pq⟩ := hq
  refine wpAny_Call_Name_kw (ld_glob I hg hm ?_ hdb)
  refine PySem.W.callWith_K0 I.kIn hk (run_fnSD (us := []) (vs := []) (ds := []) (E := WE W) F hr hb .nil (passAt tk σv) I .nil ?_)
  refine ⟨rfl, F1, [], [], [], hr1.empty, by simp [VRs], ?_⟩
  unfold mCallN at pq
  revert pq
  cases Fm [] [] with
  | exc c h' => exact fun pq => pq.elim
  | stuck => exact fun pq => pq.elim
  | ok d h' =>
    cases d with
    | bl b =>
      intro pq F' ι' H' v l hr' rv
      refine pq F' ι H' v ⟨⟨l.fr, [], by simp⟩, l.pr⟩ (hr'.forget hr1.len) ?_
      simpa only [VR] using rv
    | _ => exact fun pq => pq.elim
end
end DV
end
section
set_option Elab.async false
set_option linter.all false
set_option maxRecDepth 100000
set_option maxHeartbeats 2000000
namespace DV
open PySem L2 PyProof.Rows PySem.Spec LamX

/-! ### told(lambda: e), the lambda written in the call -/
def mTold (c0 : Nat) (ret : Str) (m : ME) : ME := fun σ h => match m σ h with
  | .ok d h' => .ok d h'
  | .exc c h' => if c = c0 then .ok (.str ret) h' else .stuck
  | .stuck => .stuck
section
variable {X : Cx} {g : G} {W : WX}
theorem toldD_weak {T : List (Addr × Str)} {c0 : Nat} {ret : Str} {m : ME} (hTi : g.Ti = Tabs T) (hex : PySem.W.exmOne X.K (.ref (g.exc c0)) (.ref (g.exc c0)) = some true) : ∀ σv H Q, tE g W (mTold c0 ret m) σv H Q →
    tLam T (TTold X.K (g.exc c0) ret) (fun E => tE g (WF E) m) σv H Q := by
  rintro σv H Q ⟨F, ι, σ, h, hr, lr, p⟩
  have hT : Tabs T H := by
    have this : g.Ti H := hr.ti
    rw [hTi] at this
    exact this
  refine ⟨hT, fun H1 hE hT1 => ?_⟩
  have hr1 : HR g F ι h H1 := hr.ext hE (by show g.Ti H1; rw [hTi]; exact hT1)
  refine ⟨F, ι, σ, h, hr1, lr, ?_⟩
  unfold mTold at p
  revert p
  cases m σ h with
  | ok d h' => exact fun p => p
  | stuck => exact fun p => p
  | exc c h' =>
    dsimp only
    intro p F' ι' H' l hr'
    by_cases hc : c = c0
    · rw [if_pos hc] at p
      subst hc
      exact ⟨true, hex, fun _ => p F' ι' H' (.str ret) l hr' (by simp [VR]), fun z => by cases z⟩
    · rw [if_neg hc] at p
      exact p.elim
theorem em_toldD {M : Md} {w : World} {h : Heap} {T : List (Addr × Str)} {c P : Addr} {x a e ret : Str} {k0 c0 jr : Nat} {pg : Arguments} {bg : List Stmt} {sg : Scope} {Ng : List Str} {params : Arguments} {body : Expr} {scope : Scope} {m : ME} {p lpos pos p1 p2 p3 p4 p5 p6 p7 p8 : Pos}
    (E : EV M w X.K X.mg X.base h) (i : Nat) (hi : M.fn[i]? = some ⟨(x, none), x, x, pg, bg, sg, [], []⟩)
    (hbg : bg = [.Try [.Return (some (.Call (.Name a p1) [] [] p2)) p3] [.ExceptHandler (some (.Name e p4)) none [.Return (some (.Constant (.str ret) jr p5)) p6] p7] [] [] p8])
    (hps : ∀ (kV doc pm : Value) (an : Option Addr) (cdv ct : Value) (us : List Value), us.length = [a].length → bindArgs (PySem.W.fnOf x x pg bg sg .none kV doc pm an cdv ct) ⟨us, []⟩ = pure ([a].zip us))
    (hm : X.mg x = some (.ref (He.fAd X.K (x, none)))) (Sg : FnScope Ng [a] sg) (hNg : Ng[0]? = some a) (hva : Vis sg a) (hge : sg.names.lookup e = some .globalImplicit) (hme : X.mg e = some (.ref (g.exc c0)))
    (hex : PySem.W.exmOne X.K (.ref (g.exc c0)) (.ref (g.exc c0)) = some true) (h0 : ∀ f : Addr, (L2.start Ng [V.ref f])[0]? = some (some (V.ref f)))
    (hTi : g.Ti = Tabs T) (TB : TabB X.base X.mg c P) (hcode : X.env.code = .ref c) (hmT : (P, X.env.qual ++ "<lambda>") ∈ T) (hu : ∀ p ∈ T, p.1 = P → p.2 = X.env.qual ++ "<lambda>") (hr : Room (k0 + 2) X.A) (L : LamS X.env.scope scope) (hdef : defaultsOf params X.env = ([], []))
    (hbind : ∀ (q : Str) (cl : List (Str × Addr)) (pm cv ctv : Value), bindArgs (PySem.W.kla_fn "<lambda>" q params body scope cl pm cv ctv) ⟨[], []⟩ = pure [])
    (hbody : ∀ (A : Around) (outer : List Env) (s : Shared) (H : Hp) (E : XK) (f c' : Addr), Room k0 (lamCx X A outer s H E scope f c').A → Takes (lamCx X A outer s H E scope f c') (WF E) → PE (lamCx X A outer s H E scope f c') body (tE g (WF E) m))
    (hg : Gl X x)
    (hde : (e == ("__debug__" : Str)) = false := by decide) (hdb : (x == ("__debug__" : Str)) = false := by decide) (hd : (a == ("__debug__" : Str)) = false := by decide) (hcd : (a == ("__classdict__" : Str)) = false := by decide) :
    PE X (.Call (.Name x p) [.Lambda params body scope lpos] [] pos) (tE g W (mTold c0 ret m)) := by
  obtain ⟨fd, F⟩ := E.c.t.d.def_ i hi
  have F0 : FunD X.K x x pg bg sg [] [] (He.fAd X.K (x, none)) fd := F
  have b := FunD.bindsA (ps := [a]) F0 hps
  obtain ⟨oc, od, dV, kV, doc, pm, an, cdv, ct, osl, rfl, lk, hcd', _, _⟩ := F0.ex
  subst hbg
  refine PE_weak (pe_lamcall (k := k0) (t := fun E => tE g (WF E) m) hg hm F0.kp lk hcd' (fun s us _ hl => by rw [List.append_nil] at hl ⊢; exact b s us hl) Sg hNg hva ?_ TB hcode hmT hu hr L hdef hbind
    (fun A outer s H E f c' hr2 => hbody A outer s H E f c' hr2 (takes_of rfl rfl rfl rfl)) hdb hd hcd) (toldD_weak hTi hex)
  exact told_gives hge hme hde h0
end
end DV
end
section
set_option Elab.async false
set_option linter.all false
set_option maxRecDepth 100000
set_option maxHeartbeats 2000000
namespace DV
open PySem L2 PyProof.Rows PySem.Spec LamX

/-! ### dicts: laid, stored, read -/
def putKd (ks : List (Key × D)) (k : Key) (d : D) : List (Key × D) :=
  if (ks.any fun p => decide (p.1 = k)) = true then ks.map (fun p => if p.1 = k then (p.1, d) else p) else ks ++ [(k, d)]
def mergeKd (ks more : List (Key × D)) : List (Key × D) := more.foldl (fun acc p => putKd acc p.1 p.2) ks
section
variable {g : G} {F : Kn} {ι : List Addr}
theorem VRk.any {k : Key} : ∀ {ks : List (Key × D)} {ws : List (Key × V)}, VRk g F ι ks ws → (ws.any fun p => decide (p.1 = k)) = (ks.any fun p => decide (p.1 = k))
  | [], ws, r => by simp only [VRk] at r; subst r; rfl
  | (k', d) :: ks, ws, r => by
    simp only [VRk] at r
    obtain ⟨v, us, rfl, _, r⟩ := r
    simp [VRk.any r]
theorem VRk.append : ∀ {ks ls : List (Key × D)} {vs ws : List (Key × V)}, VRk g F ι ks vs → VRk g F ι ls ws → VRk g F ι (ks ++ ls) (vs ++ ws)
  | [], ls, vs, ws, r, q => by simp only [VRk] at r; subst r; exact q
  | (k', d) :: ks, ls, vs, ws, r, q => by
    simp only [VRk] at r
    obtain ⟨v, us, rfl, r0, r⟩ := r
    simp only [List.cons_append, VRk]
    exact ⟨v, _, rfl, r0, VRk.append r q⟩
theorem VRk.mapv {k : Key} {d : D} {v : V} (rv : VR g F ι d v) : ∀ {ks : List (Key × D)} {ws : List (Key × V)}, VRk g F ι ks ws → VRk g F ι (ks.map fun p => if p.1 = k then (p.1, d) else p) (ws.map fun p => if p.1 = k then (p.1, v) else p)
  | [], ws, r => by simp only [VRk] at r; subst r; simp [VRk]
  | (k', d') :: ks, ws, r => by
    simp only [VRk] at r
    obtain ⟨v', us, rfl, r0, r⟩ := r
    simp only [List.map_cons]
    by_cases e : k' = k
    · simp only [if_pos e, VRk]
      exact ⟨v, _, rfl, rv, VRk.mapv rv r⟩
    · simp only [if_neg e, VRk]
      exact ⟨v', _, rfl, r0, VRk.mapv rv r⟩
theorem VRk.put {ks : List (Key × D)} {ws : List (Key × V)} {k : Key} {d : D} {v : V} (r : VRk g F ι ks ws) (rv : VR g F ι d v) : VRk g F ι (putKd ks k d) (putK ws k v) := by
  unfold putKd putK
  rw [r.any]
  by_cases h : (ks.any fun p => decide (p.1 = k)) = true
  · rw [if_pos h, if_pos h]
    exact VRk.mapv rv r
  · rw [if_neg h, if_neg h]
    exact r.append (by simp only [VRk]; exact ⟨v, [], rfl, rv, rfl⟩)
theorem VRk.merge : ∀ {ms : List (Key × D)} {us : List (Key × V)} {ks : List (Key × D)} {ws : List (Key × V)}, VRk g F ι ms us → VRk g F ι ks ws → VRk g F ι (mergeKd ks ms) (mergeK ws us)
  | [], us, ks, ws, r, q => by simp only [VRk] at r; subst r; exact q
  | (k, d) :: ms, us, ks, ws, r, q => by
    simp only [VRk] at r
    obtain ⟨v, us, rfl, r0, r⟩ := r
    show VRk g F ι (mergeKd (putKd ks k d) ms) (mergeK (putK ws k v) us)
    exact VRk.merge r (q.put r0)
end
/-- a new dict -/
def mkK (mu : Bool) (ks : List (Key × D)) (h : AH) : Rv D := if mu then .ok (.ref h.length) (h ++ [some (.dct ks)]) else .ok (.dct ks) h
section
variable {g : G} {W : WX} {F : Kn} {ι : List Addr} {h : AH} {H : Hp} {σv : L2.St} {Q : VK}
theorem mkK_ok (t : TiOk g) {mu : Bool} {ks : List (Key × D)} {ws : List (Key × V)} (hr : HR g F ι h H) (rv : VRk g F ι ks ws) (p : Post g W F ι σv (VR g) (mkK mu ks h) Q) : ∀ l, H l = none → Q (.ref l) (upd H l (.dK ws)) := by
  intro l hl
  unfold mkK at p
  cases mu with
  | true =>
    obtain ⟨hr', l'⟩ := hr.newO t hl (o := .dct ks) (x := .dK ws) ⟨ws, rfl, rv⟩
    exact p F _ _ (.ref l) l' hr' (by simp only [VR]; exact ⟨l, rfl, by rw [← hr.len]; simp⟩)
  | false =>
    obtain ⟨hr', l'⟩ := hr.newF t hl (.dK ws)
    exact p _ _ _ (.ref l) l' hr' (by simp only [VR]; exact ⟨l, ws, rfl, add_same, VRk.mono l' _ _ rv⟩)
/-! stores -/
def dctAt (d : D) (h : AH) : Option (Nat × List (Key × D)) := match d with
  | .ref n => match h[n]? with
    | some (some (.dct ks)) => some (n, ks)
    | _ => none
  | _ => none
theorem dctAt_ok (hr : HR g F ι h H) {d : D} {v : V} {n : Nat} {ks : List (Key × D)} (e : dctAt d h = some (n, ks)) (rv : VR g F ι d v) : ∃ l ws, v = .ref l ∧ ι[n]? = some l ∧ h[n]? = some (some (.dct ks)) ∧ H l = some (.dK ws) ∧ VRk g F ι ks ws := by
  cases d with
  | ref k =>
    simp only [VR] at rv
    obtain ⟨l, rfl, en⟩ := rv
    simp only [dctAt] at e
    split at e
    · rename_i xs eo
      cases e
      obtain ⟨b, z, q1, q2, ⟨vs, rfl, q3⟩, q4⟩ := hr.hp n _ eo
      rw [en] at q1
      cases q1
      exact ⟨l, vs, rfl, en, eo, q2, q3⟩
    · cases e
  | _ => cases e
theorem dctAt_put (t : TiOk g) (hr : HR g F ι h H) {n : Nat} {l : Addr} {ks ks' : List (Key × D)} {ws ws' : List (Key × V)} (en : ι[n]? = some l) (eo : h[n]? = some (some (.dct ks))) (q : H l = some (.dK ws)) (rv : VRk g F ι ks' ws') :
    HR g F ι (h.set n (some (.dct ks'))) (upd H l (.dK ws')) := hr.write t eo en (by rw [q]; trivial) ⟨ws', rfl, rv⟩
def setD (x k v : D) (h : AH) : Option AH := match dctAt x h, keyD k with
  | some (n, ks), some k => if ks.length < sizeLine then some (h.set n (some (.dct (putKd ks k v)))) else none
  | _, _ => none
theorem setD_ok (t : TiOk g) (hr : HR g F ι h H) {x k d : D} {h' : AH} {u w y : V} (e : setD x k d h = some h') (rx : VR g F ι x u) (rk : VR g F ι k w) (rd : VR g F ι d y) :
    ∃ l H', u = .ref l ∧ DPut H l w y H' ∧ HR g F ι h' H' := by
  unfold setD at e
  split at e
  · rename_i n ks k' e1 e2
    obtain ⟨l, ws, rfl, en, eo, q, rv⟩ := dctAt_ok hr e1 rx
    have ek := keyD_ok e2 rk
    subst ek
    split at e
    · rename_i hl
      cases e
      have hl' : ws.length < sizeLine := by rw [VRk.length rv]; exact hl
      exact ⟨l, _, rfl, DPut.k q hl', dctAt_put t hr en eo q (rv.put rd)⟩
    · cases e
  · cases e
end
/-- a list or a dict -/
def setLD (x k v : D) (h : AH) : Option AH := match listAt x h with | some _ => setAt x k v h | none => setD x k v h
theorem PSet.or {X : Cx} {t1 t2 : TSet} (a : PSet X t1) (b : PSet X t2) : PSet X fun o i v H Q => t1 o i v H Q ∨ t2 o i v H Q := by
  intro pins s σ H o i v u1 u2 u3 Q I r1 r2 r3 h
  rcases h with h | h
  · exact a pins s σ H o i v u1 u2 u3 Q I r1 r2 r3 h
  · exact b pins s σ H o i v u1 u2 u3 Q I r1 r2 r3 h
theorem PS_or {X : Cx} {st : Stmt} {t1 t2 : TS} (a : PS X st t1) (b : PS X st t2) : PS X st fun E σ H => t1 E σ H ∨ t2 E σ H :=
  ⟨fun pins s σ H E I h => h.elim (a.run pins s σ H E I) (b.run pins s σ H E I)⟩
end DV
end
section
set_option Elab.async false
set_option linter.all false
set_option maxRecDepth 100000
set_option maxHeartbeats 2000000
namespace DV
open PySem L2 PyProof.Rows PySem.Spec LamX SrtO

/-! ### sorted texts -/
def ltS (a b : Str) : Bool := ltCps a.cps.toList b.cps.toList
theorem ltS_f {a b : Str} : ltS a b = false ↔ b.cps.toList ≤ a.cps.toList := by
  unfold ltS
  rw [ltCps_eq, decide_eq_false_iff_not, List.not_lt]
theorem str_ext {a b : Str} (h : a.cps.toList = b.cps.toList) : a = b := by
  cases a; cases b
  congr 1
  exact Array.toList_inj.mp h
theorem sortedS_pw : ∀ (l : List Str), sortedS l = true → l.Pairwise fun a b => ltS b a = false
  | [], _ => .nil
  | x :: r, h => by
    have key : ∀ (r : List Str) (x : Str), risingS x r = true → (x :: r).Pairwise fun a b => ltS b a = false := by
      intro r
      induction r with
      | nil => exact fun x _ => List.pairwise_singleton _ _
      | cons y r ih =>
        intro x h
        have h : (!ltCps y.cps.toList x.cps.toList && risingS y r) = true := h
        rw [Bool.and_eq_true, Bool.not_eq_true'] at h
        have p := ih y h.2
        refine List.pairwise_cons.mpr ⟨fun z hz => ?_, p⟩
        rcases List.mem_cons.mp hz with rfl | hz
        · exact h.1
        · exact ltS_f.mpr (List.le_trans (ltS_f.mp (show ltS y x = false from h.1)) (ltS_f.mp ((List.pairwise_cons.mp p).1 z hz)))
    exact key r x h
def srtS (l : List Str) : List Str := isortB ltS l
theorem swoS : Swo ltS := by
  refine ⟨fun x y h => ?_, fun x y z h1 h2 => ltS_f.mpr (List.le_trans (ltS_f.mp h1) (ltS_f.mp h2))⟩
  unfold ltS at h ⊢
  rw [ltCps_eq, decide_eq_true_iff] at h
  rw [ltCps_eq, decide_eq_false_iff_not]
  exact List.lt_asymm h
theorem srtS_eq {ys l : List Str} (hp : ys.Perm l) (hs : sortedS ys = true) : ys = srtS l :=
  List.Perm.eq_of_pairwise (le := fun a b => ltS b a = false) (fun a b _ _ h1 h2 => str_ext (List.le_antisymm (ltS_f.mp h1) (ltS_f.mp h2))) (sortedS_pw ys hs) (isortB_srtd swoS l) (hp.trans (isortB_perm l).symm)
def strsD : List D → Option (List Str)
  | [] => some []
  | .str x :: r => (strsD r).map (x :: ·)
  | _ :: _ => none
theorem strsD_eq : ∀ {ds : List D} {ns : List Str}, strsD ds = some ns → ds = ns.map D.str
  | [], ns, e => by cases e; rfl
  | .str i :: r, ns, e => by
    unfold strsD at e
    cases q : strsD r with
    | none => rw [q] at e; cases e
    | some l => rw [q] at e; cases e; rw [strsD_eq q]; rfl
theorem VRs.strs' {g : G} {F : Kn} {ι : List Addr} : ∀ {ns : List Str} {vs : List V}, VRs g F ι (ns.map D.str) vs → vs = ns.map V.str
  | [], vs, r => by simpa only [List.map_nil, VRs] using r
  | n :: ns, vs, r => by
    simp only [List.map_cons, VRs, VR] at r
    obtain ⟨v, ws, rfl, rfl, r⟩ := r
    rw [VRs.strs' r]
    rfl
theorem VRs.strs {g : G} {F : Kn} {ι : List Addr} : ∀ (ns : List Str), VRs g F ι (ns.map D.str) (ns.map V.str)
  | [] => by simp [VRs]
  | n :: ns => by
    simp only [List.map_cons, VRs]
    exact ⟨_, _, rfl, by simp [VR], VRs.strs ns⟩
def keysS : List (Key × D) → Option (List Str)
  | [] => some []
  | (.inr x, _) :: r => (keysS r).map (x :: ·)
  | _ :: _ => none
theorem keysS_eq {g : G} {F : Kn} {ι : List Addr} : ∀ {ks : List (Key × D)} {ws : List (Key × V)} {ns : List Str}, keysS ks = some ns → VRk g F ι ks ws → ws.map (·.1) = ns.map Sum.inr
  | [], ws, ns, e, r => by cases e; simp only [VRk] at r; subst r; rfl
  | (.inr x, d) :: ks, ws, ns, e, r => by
    unfold keysS at e
    simp only [VRk] at r
    obtain ⟨v, us, rfl, _, r⟩ := r
    cases q : keysS ks with
    | none => rw [q] at e; cases e
    | some l => rw [q] at e; cases e; simp [keysS_eq q r]
/-- sorted, of ints, of pairs of ints, of texts (few), of a dict with keys that are texts -/
def srt2 (mu : Bool) (d : D) (h : AH) : Rv D := match getL h d with
  | some ys => match srtD ys with
    | some xs => mkL mu xs h
    | none => match strsD ys with
      | some ss => okIf (ss.length < 64) (mkL mu ((srtS ss).map D.str) h)
      | none => .stuck
  | none => match getK h d with
    | some ks => match keysS ks with
      | some ss => okIf (ss.length < 64) (mkL mu ((srtS ss).map D.str) h)
      | none => .stuck
    | none => .stuck
def bSorted2 (mu : Bool) (ds : List D) (h : AH) : Rv D := match ds with
  | [d] => srt2 mu d h
  | _ => .stuck
def rSrt2 (K : PySem.W.Frag) : List V → Hp → VK → Prop := fun vs H Q => rSrt K vs H Q ∨ rSortedS K vs H Q ∨ (∃ (a : Addr) (kvs : List (Key × V)) (ks : List Str), vs = [.ref a] ∧ Rd H a (.dK kvs) ∧ kvs.map (·.1) = ks.map Sum.inr ∧ ks.length < 64 ∧
    ∀ ys p, ys.Perm ks → sortedS ys = true → H p = none → Q (.ref p) (upd H p (.lst (ys.map V.str))))
section
variable {X : Cx} {g : G} {W : WX} {F : Kn} {ι : List Addr} {h : AH} {H : Hp}
theorem c_sorted2 (hK : X.K = g.K) (hc : X.calm = true) : CallR X (.builtin "sorted") (rSrt2 g.K) := by
  intro pins s σ H xs us Q I r q
  rcases q with q | q | q
  · exact (c_sorted hK) pins s σ H xs us Q I r q
  · rw [← hK] at q
    exact cr_sortedS pins s σ H xs us Q I r q
  · exact call_sortedD hc pins s σ H xs us Q I r q
theorem k_sorted2 (t : TiOk g) (mu : Bool) : CallOk g (rSrt2 g.K) (bSorted2 mu) := by
  intro W F ι h H σv ds vs Q hr rv p
  unfold bSorted2 at p
  split at p
  · obtain ⟨v, rfl, r⟩ := one1 rv
    unfold srt2 at p
    split at p
    · rename_i ys q
      obtain ⟨a, ws, rfl, q1, q2⟩ := getL_ok hr q r
      split at p
      · rename_i xs e
        obtain ⟨zs, s1, s2⟩ := srtD_ok hr e q2
        exact .inl ⟨a, ws, zs, rfl, q1, s1, mkL_ok t hr s2 p⟩
      · split at p
        · rename_i ss e
          obtain ⟨hl, p⟩ := okIf_post p
          rw [strsD_eq e] at q2
          rw [VRs.strs' q2] at q1
          refine .inr (.inl ⟨a, ss, rfl, q1, hl, fun ys l hp hs hn => ?_⟩)
          rw [srtS_eq hp hs]
          exact mkL_ok t hr (VRs.strs _) p l hn
        · exact p.elim
    · split at p
      · rename_i ks q
        obtain ⟨a, ws, rfl, q1, q2⟩ := getK_ok hr q r
        split at p
        · rename_i ss e
          obtain ⟨hl, p⟩ := okIf_post p
          refine .inr (.inr ⟨a, ws, ss, rfl, q1, keysS_eq e q2, hl, fun ys l hp hs hn => ?_⟩)
          rw [srtS_eq hp hs]
          exact mkL_ok t hr (VRs.strs _) p l hn
        · exact p.elim
      · exact p.elim
  · exact p.elim
end
end DV
end
section
set_option Elab.async false
set_option linter.all false
set_option maxRecDepth 100000
set_option maxHeartbeats 2000000
namespace DV
open PySem L2 PyProof.Rows PySem.Spec LamX SrtO

/-! ### stores into a list or a dict, op= there -/
section
variable {X : Cx} {g : G} {W : WX} {F : Kn} {ι : List Addr} {h : AH} {H : Hp} {st : Stmt} {e a b o i c value : Expr} {es : List Expr} {m ma mb mo mi me mv mk : ME} {r : MA} {pos p tpos pos' apos cpos : Pos}
def gmSubD (mo mi : ME) : MG := fun d σ h => bindR (mo σ h) fun x h1 => bindR (mi σ h1) fun k h2 => match setLD x k d h2 with | some h3 => .ok σ h3 | none => .stuck
theorem setLD_ok (t : TiOk g) (hr : HR g F ι h H) {x k d : D} {h' : AH} {u w y : V} (e : setLD x k d h = some h') (rx : VR g F ι x u) (rk : VR g F ι k w) (rd : VR g F ι d y) {Q : Hp → Prop} (q : ∀ H', HR g F ι h' H' → Q H') :
    rSetL u w y H Q ∨ rSetD u w y H Q := by
  unfold setLD at e
  split at e
  · obtain ⟨l, vs, z, j, rfl, rfl, q1, q2, q3⟩ := setAt_ok t hr e rx rk rd
    exact .inl ⟨l, vs, z, j, rfl, rfl, q1, q2, q _ q3⟩
  · obtain ⟨l, H', rfl, q1, q2⟩ := setD_ok t hr e rx rk rd
    exact .inr ⟨l, H', rfl, q1, q _ q2⟩
theorem gm_subD (t : TiOk g) (hu : X.A.units + 1 < cLine) (ho : PE X o (tE g W0 mo)) (hi : PE X i (tE g W0 mi))
    (ha : ∀ v, assign (.Subscript o i pos) X.env v = (do
      let ov ← holding [v] (eval o X.env)
      let iv ← holding [v, ov] (eval i X.env)
      standAt pos
      holding [v, ov, iv] (setItem ov iv v)
      release [v, ov, iv] []) := by intro _; rfl) : PG X (.Subscript o i pos) (tG g W [] (gmSubD mo mi)) := by
  refine PG_weak (pg_sub ho hi (PSet.or set_list (set_dict hu)) ha) ?_
  rintro y σv H Q ⟨F, ι, σ, h, d, hr, lr, rd, p⟩
  unfold gmSubD at p
  refine ⟨F, ι, σ, h, hr, lr, ?_⟩
  revert p
  cases mo σ h with
  | exc c h1 => exact fun p => p.elim
  | stuck => exact fun p => p.elim
  | ok x h1 =>
    intro p F1 ι1 H1 u l1 hr1 r1
    refine ⟨F1, ι1, σ, h1, hr1, lr.mono l1, ?_⟩
    have p : (match bindR (mi σ h1) fun k h2 => (match setLD x k d h2 with | some h3 => Rv.ok σ h3 | none => .stuck) with | .ok σ' h' => ∀ F' ι' H' σv', Le F ι F' ι' → HR g F' ι' h' H' → LR g F' ι' σ' σv' → SameBut [] σv σv' → Q σv' H' | _ => False) := p
    revert p
    cases mi σ h1 with
    | exc c h2 => exact fun p => p.elim
    | stuck => exact fun p => p.elim
    | ok k h2 =>
      intro p F2 ι2 H2 w l2 hr2 r2
      have p : (match (match setLD x k d h2 with | some h3 => Rv.ok σ h3 | none => .stuck) with | .ok σ' h' => ∀ F' ι' H' σv', Le F ι F' ι' → HR g F' ι' h' H' → LR g F' ι' σ' σv' → SameBut [] σv σv' → Q σv' H' | _ => False) := p
      cases e : setLD x k d h2 with
      | none => rw [e] at p; exact p.elim
      | some h3 =>
        rw [e] at p
        exact setLD_ok t hr2 e (VR.mono l2 _ _ r1) r2 (VR.mono (l1.trans l2) _ _ rd) fun H' q3 => p F2 ι2 _ σv (l1.trans l2) q3 (lr.mono (l1.trans l2)) .refl
/-- d[k] op= e, d a dict -/
def sAugD (f : D → D → AH → Rv D) (mo mi me : ME) : MS := fun σ h => ofE σ (mo σ h) fun x h1 => ofE σ (mi σ h1) fun k h2 => match lookD x k h2 with
  | some (some y) => ofE σ (me σ h2) fun e h3 => ofE σ (f y e h3) fun n h4 => match setD x k n h4 with | some h5 => .ok (.nx σ) h5 | none => .stuck
  | _ => .stuck
theorem sm_augD (t : TiOk g) (hu : X.A.units + 1 < cLine) {op : Operator} {ti : TIp} {f : D → D → AH → Rv D} (ho : PE X o (tE g W mo)) (hi : PE X i (tE g W mi)) (he : PE X e (tE g W me)) (hp : InOp X op ti) (hk : OpOk g ti f)
    (ha : ∀ ov iv new, augStore i ov iv new = (do holding [new, ov, iv] (setItem ov iv new); release [new, ov, iv] []; pure .next) := by intros; rfl) : PS X (.AugAssign (.Subscript o i tpos) op e pos) (tS g W (sAugD f mo mi me)) := by
  refine PS_weak (ps_daug hu ho hi he hp ha) ?_
  rintro E σv H ⟨F, ι, σ, h, hr, lr, p⟩
  unfold sAugD at p
  refine tS_bind (f := fun σ x h1 => ofE σ (mi σ h1) fun k h2 => match lookD x k h2 with
    | some (some y) => ofE σ (me σ h2) fun e h3 => ofE σ (f y e h3) fun n h4 => match setD x k n h4 with | some h5 => .ok (.nx σ) h5 | none => .stuck
    | _ => .stuck) hr lr p fun F1 ι1 H1 x h1 u l1 hr1 lr1 r1 p1 => ?_
  refine tS_bind (f := fun σ k h2 => match lookD x k h2 with
    | some (some y) => ofE σ (me σ h2) fun e h3 => ofE σ (f y e h3) fun n h4 => match setD x k n h4 with | some h5 => .ok (.nx σ) h5 | none => .stuck
    | _ => .stuck) hr1 lr1 p1 fun F2 ι2 H2 k h2 w l2 hr2 lr2 r2 p2 => ?_
  split at p2
  · rename_i y e1
    have rx2 := VR.mono l2 _ _ r1
    obtain ⟨b, rfl, ov, g1, o1⟩ := lookD_ok hr2 e1 rx2 r2
    obtain ⟨v, rfl, rv⟩ := o1
    refine ⟨b, v, rfl, g1, ?_⟩
    refine tS_bind (f := fun σ e h3 => ofE σ (f y e h3) fun n h4 => match setD x k n h4 with | some h5 => .ok (.nx σ) h5 | none => .stuck) hr2 lr2 p2 fun F3 ι3 H3 d h3 u l3 hr3 lr3 r3 p3 => ?_
    refine hk W F3 ι3 h3 H3 σv y d v u _ hr3 (VR.mono l3 _ _ rv) r3 (ofE_post lr3 p3 fun F4 ι4 H4 n h4 w' l4 hr4 lr4 r4 p4 => ?_)
    split at p4
    · rename_i h5 e5
      obtain ⟨l, H', q1, q2, q3⟩ := setD_ok t hr4 e5 (VR.mono (l3.trans l4) _ _ rx2) (VR.mono (l3.trans l4) _ _ r2) r4
      cases q1
      exact ⟨H', q2, nxt p4 q3 lr4⟩
    · exact p4.elim
  · exact p2.elim
/-! ### dict of a list of pairs -/
def pairK : D → Option (Key × D)
  | .tup [k, d] => (keyD k).map fun k => (k, d)
  | _ => none
def pairsK : List D → Option (List (Key × D))
  | [] => some []
  | d :: r => match pairK d, pairsK r with | some p, some ps => some (p :: ps) | _, _ => none
theorem pairsK_ok (hr : HR g F ι h H) : ∀ {ds : List D} {vs : List V} {ks : List (Key × D)}, pairsK ds = some ks → VRs g F ι ds vs → ∃ (ps : List Addr) (ws : List (Key × V)), vs = ps.map V.ref ∧ Paired (fun p kv => SqT g.K H p [kV kv.1, kv.2]) ps ws ∧ VRk g F ι ks ws
  | [], vs, ks, e, r => by
    cases e
    simp only [VRs] at r
    exact ⟨[], [], r, .nil, by simp [VRk]⟩
  | d :: ds, vs, ks, e, r => by
    unfold pairsK at e
    simp only [VRs] at r
    obtain ⟨v, us, rfl, r0, r⟩ := r
    split at e
    · rename_i q qs e1 e2
      cases e
      obtain ⟨ps, ws, rfl, p1, p2⟩ := pairsK_ok hr e2 r
      unfold pairK at e1
      split at e1
      · rename_i k d
        cases e3 : keyD k with
        | none => rw [e3] at e1; cases e1
        | some k' =>
          rw [e3] at e1
          cases e1
          obtain ⟨a, ys, rfl, t1, t2⟩ := tup_ok hr r0
          obtain ⟨y1, y2, rfl, z1, z2⟩ := two2 t2
          have ek := keyD_ok e3 z1
          subst ek
          exact ⟨a :: ps, (k', y2) :: ws, rfl, .cons t1 p1, by simp only [VRk]; exact ⟨y2, ws, rfl, z2, p2⟩⟩
      · cases e1
    · cases e
def bDict (mu : Bool) (ds : List D) (h : AH) : Rv D := match ds with
  | [d] => match (getL h d).bind pairsK with | some ks => mkK mu (mergeKd [] ks) h | none => .stuck
  | _ => .stuck
theorem k_dict (t : TiOk g) (mu : Bool) : CallOk g (fun xs H Q => ∃ (a : Addr) (ps : List Addr) (kvs : List (Key × V)), xs = [.ref a] ∧ SqL g.K H a (ps.map V.ref) ∧ Paired (fun p kv => SqT g.K H p [kV kv.1, kv.2]) ps kvs ∧
    ∀ p, H p = none → Q (.ref p) (upd H p (.dK (mergeK [] kvs)))) (bDict mu) := by
  intro W F ι h H σv ds vs Q hr rv p
  unfold bDict at p
  split at p
  · rename_i d
    obtain ⟨v, rfl, r⟩ := one1 rv
    split at p
    · rename_i ks q
      cases q1 : getL h d with
      | none => rw [q1] at q; cases q
      | some xs =>
        rw [q1] at q
        obtain ⟨a, ws, rfl, s1, s2⟩ := getL_ok hr q1 r
        obtain ⟨ps, us, rfl, p1, p2⟩ := pairsK_ok hr (show pairsK xs = some ks from q) s2
        exact ⟨a, ps, us, rfl, s1, p1, fun l hl => mkK_ok t hr (VRk.merge p2 (by simp [VRk])) p l hl⟩
    · exact p.elim
  · exact p.elim
theorem c_dict (hK : X.K = g.K) (hc : X.calm = true) : CallR X (.type "dict") (fun xs H Q => ∃ (a : Addr) (ps : List Addr) (kvs : List (Key × V)), xs = [.ref a] ∧ SqL g.K H a (ps.map V.ref) ∧ Paired (fun p kv => SqT g.K H p [kV kv.1, kv.2]) ps kvs ∧
    ∀ p, H p = none → Q (.ref p) (upd H p (.dK (mergeK [] kvs)))) := by rw [← hK]; exact call_dictP hc
end
end DV
end
section
set_option Elab.async false
set_option linter.all false
set_option maxRecDepth 100000
set_option maxHeartbeats 2000000
namespace DV
open PySem L2 PyProof.Rows PySem.Spec LamX SrtO

/-! ### dict comprehensions: the dict lies in the plain heap while it grows -/
def dcN (it : IT) (mg : MG) (mt : MT) (mk mv : ME) (dn : Nat) : Nat → Nat → AS → AH → Rv Unit
  | 0, _, _, _ => .stuck
  | n + 1, i, σ, h => match it i h with
    | .stop => .ok () h
    | .bad => .stuck
    | .go d => match mg d σ h with
      | .ok σ1 h1 => bindR (noX (mt σ1 h1)) fun k h2 => if k = true then bindR (noX (mk σ1 h2)) fun y h3 => bindR (noX (mv σ1 h3)) fun z h4 => match setD (.ref dn) y z h4 with
            | some h5 => dcN it mg mt mk mv dn n (i + 1) σ h5
            | none => .stuck
          else dcN it mg mt mk mv dn n (i + 1) σ h2
      | _ => .stuck
def mDc (mu : Bool) (mi : MI) (vs : List Nat) (mg : MG) (mt : MT) (mk mv : ME) : ME := fun σ h => bindR (mi σ h) fun it h1 => bindR (dcN it mg mt mk mv h1.length bigN 0 (wipeA σ vs) (h1 ++ [some (.dct [])])) fun _ h2 => if mu = true then .ok (.ref h1.length) h2 else frzD (.ref h1.length) h2
section
variable {X : Cx} {g : G} {W : WX} {F : Kn} {ι : List Addr} {mi : MI} {mg : MG} {mt : MT} {mk mv : ME} {is vs : List Nat} {mu : Bool}
theorem dc_weak (t : TiOk g) (hs : ∀ i ∈ is, i ∈ vs) : ∀ σv H Q, tE g W (mDc mu mi vs mg mt mk mv) σv H Q → tDc (tI g W mi) (tG g W0 is mg) (tT g W0 mt) (tE g W0 mk) (tE g W0 mv) vs σv H Q := by
  rintro σv H Q ⟨F, ι, σ, h, hr, lr, p⟩
  refine tM_bind (f := fun σ it h1 => bindR (dcN it mg mt mk mv h1.length bigN 0 (wipeA σ vs) (h1 ++ [some (.dct [])])) fun _ h2 => if mu = true then .ok (.ref h1.length) h2 else frzD (.ref h1.length) h2) hr lr p fun F1 ι1 H1 it h1 J l hr1 lr1 r1 p1 => ?_
  intro Dd hD
  generalize hdn : h1.length = dn at p1
  obtain ⟨hr1', l1⟩ := hr1.newO t hD (o := .dct []) (x := .dK []) ⟨[], rfl, by simp [VRk]⟩
  have hat : (ι1 ++ [Dd])[dn]? = some Dd := by rw [← hdn, ← hr1.len]; simp
  refine ⟨fun i m H => ∃ F ι h, Le F1 ι1 F ι ∧ ι[dn]? = some Dd ∧ HR g F ι h H ∧ Post g W F ι σv (VR g) (bindR (dcN it mg mt mk mv dn m i (wipeA σ vs) h) fun _ h2 => if mu = true then .ok (.ref dn) h2 else frzD (.ref dn) h2) Q,
    ⟨bigN, F1, ι1 ++ [Dd], _, l1, hat, hr1', p1.le l1⟩, ?_⟩
  rintro i m H ⟨F, ι, h, lf, hd, hr, p⟩
  cases m with
  | zero => exact p.elim
  | succ n =>
    have hj := r1 _ ι i h H lf.toLf hr
    unfold dcN at p
    revert p hj
    cases it i h with
    | stop =>
      intro hj p
      refine .inl ⟨hj, ?_⟩
      have p : Post g W F ι σv (VR g) (if mu = true then .ok (.ref dn) h else frzD (.ref dn) h) Q := p
      have rv : VR g F ι (.ref dn) (.ref Dd) := by simp only [VR]; exact ⟨Dd, rfl, hd⟩
      cases mu with
      | true => exact fin p hr rv
      | false => exact frz_ok hr rv p
    | bad => exact fun _ p => p.elim
    | go d =>
      intro hj p
      obtain ⟨go, yld⟩ := hj
      refine .inr ⟨go, fun H' => ∃ F ι h, Le F1 ι1 F ι ∧ ι[dn]? = some Dd ∧ HR g F ι h H' ∧ Post g W F ι σv (VR g) (bindR (dcN it mg mt mk mv dn n (i + 1) (wipeA σ vs) h) fun _ h2 => if mu = true then .ok (.ref dn) h2 else frzD (.ref dn) h2) Q,
        fun H' w => ⟨n, Nat.lt_succ_self n, w⟩, fun x H' hy => ?_⟩
      obtain ⟨F2, l2, hr2, r2⟩ := yld x H' hy
      have lr2 : LR g F2 ι (wipeA σ vs) (wipe σv vs) := ((lr1.mono lf).mono l2).wipe vs
      refine ⟨F2, ι, wipeA σ vs, h, d, hr2, lr2, r2, ?_⟩
      revert p
      dsimp only
      cases mg d (wipeA σ vs) h with
      | ok σ3 h3 =>
        intro p F3 ι3 H3 σv3 l3 hr3 lr3 sb3
        refine ⟨wipe_same2 sb3 hs, ?_⟩
        have lf3 := lf.trans (l2.trans l3)
        have q3 : Le F ι F3 ι3 := l2.trans l3
        have p' : Post g W F ι σv (VR g) (bindR (bindR (noX (mt σ3 h3)) fun k h2 => if k = true then bindR (noX (mk σ3 h2)) fun y h3 => bindR (noX (mv σ3 h3)) fun z h4 => match setD (.ref dn) y z h4 with
            | some h5 => dcN it mg mt mk mv dn n (i + 1) (wipeA σ vs) h5
            | none => .stuck
          else dcN it mg mt mk mv dn n (i + 1) (wipeA σ vs) h2) fun _ h2 => if mu = true then .ok (.ref dn) h2 else frzD (.ref dn) h2) Q := p
        rw [bindR_assoc] at p'
        clear p
        refine ⟨F3, ι3, σ3, h3, hr3, lr3, ?_⟩
        revert p'
        cases mt σ3 h3 with
        | exc c h4 => exact fun p => p.elim
        | stuck => exact fun p => p.elim
        | ok k h4 =>
          intro p F4 ι4 H4 b l4 hr4 eb
          subst eb
          have p : Post g W F ι σv (VR g) (bindR (if b = true then bindR (noX (mk σ3 h4)) fun y h3 => bindR (noX (mv σ3 h3)) fun z h4 => match setD (.ref dn) y z h4 with
            | some h5 => dcN it mg mt mk mv dn n (i + 1) (wipeA σ vs) h5
            | none => .stuck
          else dcN it mg mt mk mv dn n (i + 1) (wipeA σ vs) h4) fun _ h2 => if mu = true then .ok (.ref dn) h2 else frzD (.ref dn) h2) Q := p
          by_cases hb : b = true
          · rw [if_pos hb] at p ⊢
            refine ⟨F4, ι4, σ3, h4, hr4, lr3.mono l4, ?_⟩
            rw [bindR_assoc] at p
            revert p
            cases mk σ3 h4 with
            | exc c h5 => exact fun p => p.elim
            | stuck => exact fun p => p.elim
            | ok y h5 =>
              intro p F5 ι5 H5 u l5 hr5 r5
              refine ⟨F5, ι5, σ3, h5, hr5, lr3.mono (l4.trans l5), ?_⟩
              have p : Post g W F ι σv (VR g) (bindR (bindR (noX (mv σ3 h5)) fun z h4 => match setD (.ref dn) y z h4 with
                | some h5 => dcN it mg mt mk mv dn n (i + 1) (wipeA σ vs) h5
                | none => .stuck) fun _ h2 => if mu = true then .ok (.ref dn) h2 else frzD (.ref dn) h2) Q := p
              rw [bindR_assoc] at p
              revert p
              cases mv σ3 h5 with
              | exc c h6 => exact fun p => p.elim
              | stuck => exact fun p => p.elim
              | ok z h6 =>
                intro p F6 ι6 H6 w l6 hr6 r6
                have p : Post g W F ι σv (VR g) (bindR (match setD (.ref dn) y z h6 with
                  | some h5 => dcN it mg mt mk mv dn n (i + 1) (wipeA σ vs) h5
                  | none => .stuck) fun _ h2 => if mu = true then .ok (.ref dn) h2 else frzD (.ref dn) h2) Q := p
                have l46 : Le F3 ι3 F6 ι6 := l4.trans (l5.trans l6)
                cases e : setD (.ref dn) y z h6 with
                | none => rw [e] at p; exact p.elim
                | some h7 =>
                  rw [e] at p
                  have hd6 : ι6[dn]? = some Dd := (q3.trans l46).at hd
                  unfold setD at e
                  split at e
                  · rename_i n' ks k' e1 e2
                    obtain ⟨l', ws, z1, en, eo, q, rv⟩ := dctAt_ok hr6 e1 (by simp only [VR]; exact ⟨Dd, rfl, hd6⟩ : VR g F6 ι6 (.ref dn) (.ref Dd))
                    cases z1
                    have ek := keyD_ok e2 r5
                    subst ek
                    split at e
                    · rename_i hl
                      cases e
                      exact ⟨ws, k', rfl, q, by rw [VRk.length rv]; exact hl, F6, ι6, _, (lf3.trans l46), hd6, dctAt_put t hr6 en eo q (rv.put r6), p.le (q3.trans l46)⟩
                    · cases e
                  · cases e
          · rw [if_neg hb] at p ⊢
            exact ⟨F4, ι4, h4, lf3.trans l4, (q3.trans l4).at hd, hr4, p.le (q3.trans l4)⟩
      | exc c h3 => exact fun p => p.elim
      | stuck => exact fun p => p.elim
variable {kx vx tg iter : Expr} {ifs : List Expr} {scope : Scope} {own : List (Str × Nat)} {pos spos py : Pos}
theorem em_dc (t : TiOk g) (mu : Bool) (hc : X.calm = true) (hN : X.N.Nodup) (hi : PI X tg iter (tI g W mi)) (ok : BlkOk X.N X.env.scope scope own) (hvs : own.map (·.2) = vs) (hsub : ∀ i ∈ is, i ∈ vs)
    (hg : ∀ (s : Shared) (H : Hp) (C : Addr) (cl : List (Str × Addr)) (fp : List Addr), PG (X.blk s H scope (compEnvC scope cl C X.env) fp) tg (tG g W0 is mg)) (ht : ∀ (s : Shared) (H : Hp) (C : Addr) (cl : List (Str × Addr)) (fp : List Addr), PTs (X.blk s H scope (compEnvC scope cl C X.env) fp) ifs (tT g W0 mt))
    (hk : ∀ (s : Shared) (H : Hp) (C : Addr) (cl : List (Str × Addr)) (fp : List Addr), PE (X.blk s H scope (compEnvC scope cl C X.env) fp) kx (tE g W0 mk))
    (he : ∀ (s : Shared) (H : Hp) (C : Addr) (cl : List (Str × Addr)) (fp : List Addr), PE (X.blk s H scope (compEnvC scope cl C X.env) fp) vx (tE g W0 mv)) (hs : ∀ x, foldedSetIterable iter X.env x = pure x := by intro _; rfl) :
    PE X (.DictComp kx vx [⟨tg, iter, ifs, 0⟩] scope pos) (tE g W (mDc mu mi vs mg mt mk mv)) := by
  subst hvs
  exact PE_weak (pe_dc hc hN hi ok hg ht hk he hs) (dc_weak t hsub)
end
end DV
end
section
set_option Elab.async false
set_option linter.all false
set_option maxRecDepth 100000
set_option maxHeartbeats 2000000
namespace DV
open PySem L2 PyProof.Rows PySem.Spec LamX SrtO LiI

/-! ### name = {..for..} on one line -/
section
variable {X : Cx} {g : DV.G} {W : WX} {mi : MI} {mg : MG} {mt : MT} {mk mv : ME} {is vs : List Nat} {i : Nat} {y : Str} {py pos spos : Pos} {kx vx tg iter : Expr} {ifs : List Expr} {scope : Scope} {own : List (Str × Nat)}
theorem ps_setDc {wi : TI} {gt : TG} {tt : TT} {tk tv : TE} (hc : X.calm = true) (hN : X.N.Nodup) (hy : X.N[i]? = some y) (hyl : X.env.scope.names.lookup y = some .local)
    (hsw : swapsWith (.DictComp kx vx [⟨tg, iter, ifs, 0⟩] scope pos) (some (.Name y py)) spos.line X.env = pure true) (hi : PI X tg iter wi) (ok : BlkOk X.N X.env.scope scope own)
    (hg : ∀ (s : Shared) (H : Hp) (C : Addr) (cl : List (Str × Addr)) (fp : List Addr), PG (X.blk s H scope (compEnvC scope cl C X.env) fp) tg gt) (ht : ∀ (s : Shared) (H : Hp) (C : Addr) (cl : List (Str × Addr)) (fp : List Addr), PTs (X.blk s H scope (compEnvC scope cl C X.env) fp) ifs tt)
    (hk : ∀ (s : Shared) (H : Hp) (C : Addr) (cl : List (Str × Addr)) (fp : List Addr), PE (X.blk s H scope (compEnvC scope cl C X.env) fp) kx tk)
    (he : ∀ (s : Shared) (H : Hp) (C : Addr) (cl : List (Str × Addr)) (fp : List Addr), PE (X.blk s H scope (compEnvC scope cl C X.env) fp) vx tv) (hs : ∀ x, foldedSetIterable iter X.env x = pure x := by intro _; rfl) :
    PS X (.Assign [.Name y py] (.DictComp kx vx [⟨tg, iter, ifs, 0⟩] scope pos) spos) (tAsg (tDc wi gt tt tk tv (own.map (·.2))) (gName i)) := by
  refine ⟨fun pins s σ H D I h => ?_⟩
  rw [exec_Assign_Name_used _ _ _ _ hsw]
  refine wpAny_bind (wpAny_standAt (wpAny_bind ?_))
  show wpAny _ X.A (do let _ ← comprehension (.DictComp kx vx [⟨tg, iter, ifs, 0⟩] scope pos) scope X.env (firstIterPos [⟨tg, iter, ifs, 0⟩] pos) newDict false (eval iter X.env) (some (assign (.Name y py) X.env))) _ _ s
  have h : tDc wi gt tt tk tv (own.map (·.2)) σ H (fun x H1 => gName i x σ H1 D.nx) := h
  refine wpAny_bind (thn (dc_core (Qf := fun _ s' => SP X pins D .next s') hc hN I hi ok hg ht hk he hs h fun L C s' m H' I' q hn f => ?_) fun _ s' hq => wpAny_pure (wpAny_pure hq))
  show wpAny _ _ (assign (.Name y py) X.env (.ref L)) _ _ _
  refine wpAny_assign_Name (store_ok2 (v := V.ref L) I' hN hy (.inl hyl) rfl (fun s2 I2 ⟨a, sb, ha⟩ => ?_) (.inr hyl))
  obtain ⟨f0, f1, f2, f3, f4, f5⟩ := f
  have haC : C ≠ a := by
    rcases ha with z | z
    · rw [z]; exact f1
    · exact fun e => f4 y a z e.symm
  refine ⟨m, hn.sameBut sb haC, fun h3 sb3 => ?_⟩
  exact ⟨_, H', I2.turned (t' := s2.toks) (fun b o hb e => (sb3.2 b hb).trans e) f0 f1 f3 f4 f5, q⟩
theorem sw_trueD {gs : List Comprehension} {l : Nat} {env : Env} (hk : env.scope.kind = .function) (hy : env.scope.names.lookup y = some .local) (hl : (py.line == pos.line) = true)
    (ha : (scope.names.any fun (n, k) => n == y && (k == .local || k == .cell)) = false) : swapsWith (.DictComp kx vx gs scope pos) (some (.Name y py)) l env = pure true := by
  have ky : env.kindOf y = some .local := hy
  have hb : env.blockKind = .function := by unfold Env.blockKind; rw [hk]; rfl
  unfold swapsWith
  simp only [hb, ky, ha, Expr.pos, hl]
  rfl
theorem sm_setDc (t : TiOk g) (mu : Bool) (hc : X.calm = true) (hN : X.N.Nodup) (hy : X.N[i]? = some y) (hyl : X.env.scope.names.lookup y = some .local)
    (hsw : swapsWith (.DictComp kx vx [⟨tg, iter, ifs, 0⟩] scope pos) (some (.Name y py)) spos.line X.env = pure true) (hi : PI X tg iter (tI g W mi)) (ok : BlkOk X.N X.env.scope scope own) (hvs : own.map (·.2) = vs) (hsub : ∀ i ∈ is, i ∈ vs)
    (hg : ∀ (s : Shared) (H : Hp) (C : Addr) (cl : List (Str × Addr)) (fp : List Addr), PG (X.blk s H scope (compEnvC scope cl C X.env) fp) tg (tG g W0 is mg)) (ht : ∀ (s : Shared) (H : Hp) (C : Addr) (cl : List (Str × Addr)) (fp : List Addr), PTs (X.blk s H scope (compEnvC scope cl C X.env) fp) ifs (tT g W0 mt))
    (hk : ∀ (s : Shared) (H : Hp) (C : Addr) (cl : List (Str × Addr)) (fp : List Addr), PE (X.blk s H scope (compEnvC scope cl C X.env) fp) kx (tE g W0 mk))
    (he : ∀ (s : Shared) (H : Hp) (C : Addr) (cl : List (Str × Addr)) (fp : List Addr), PE (X.blk s H scope (compEnvC scope cl C X.env) fp) vx (tE g W0 mv)) (hs : ∀ x, foldedSetIterable iter X.env x = pure x := by intro _; rfl) :
    PS X (.Assign [.Name y py] (.DictComp kx vx [⟨tg, iter, ifs, 0⟩] scope pos) spos) (tS g W (sAsg (mDc mu mi vs mg mt mk mv) (gmName i))) := by
  subst hvs
  refine PS_weak (ps_setDc hc hN hy hyl hsw hi ok hg ht hk he hs) ?_
  rintro E σv H ⟨F, ι, σ, h, hr, lr, p⟩
  refine dc_weak t hsub σv H _ (tS_bind (f := fun σ d h1 => ofG (gmName i d σ h1)) hr lr p fun F1 ι1 H1 x h1 v l hr1 lr1 r1 p1 => ?_)
  exact nxt p1 hr1 (lr1.set r1)
end
/-! ### list(d.items()) -/
section
variable {g : DV.G} {W : WX} {F : Kn} {ι : List Addr} {h : AH} {H : Hp}
theorem Tabs.more {T : List (Addr × Str)} {H H' : Hp} (hT : Tabs T H) (hE : ∀ b o, H b = some o → H' b = some o) : Tabs T H' := fun p hp => by
  obtain ⟨ps, a1, a2, a3⟩ := hT p hp
  exact ⟨ps, hE _ _ a1, a2, fun p' cv hcv => by
    obtain ⟨c0, e1, e2⟩ := a3 p' cv hcv
    exact ⟨c0, e1, hE _ _ e2⟩⟩
/-- a thing that stands, and was not known, is known from now on -/
theorem HR.know (r : HR g F ι h H) {a : Addr} {o : HO} (e : H a = some o) (hn : F a = none) (hnt : ∀ ps, o ≠ HO.tbl ps) (hι : ∀ (n : Nat) (u : O), h[n]? = some (some u) → ι[n]? ≠ some a) (hp : ∀ q ∈ F.pr, q.1 ≠ a) : HR g (F.add a o) ι h H ∧ Le F ι (F.add a o) ι := by
  have l : Le F ι (F.add a o) ι := Le.add hn
  refine ⟨⟨fun b u z => ?_, fun n u z => ?_, r.inj, r.len, r.ti, fun q hq => ?_, r.pt⟩, l⟩
  · by_cases hb : b = a
    · subst hb
      rw [add_same] at z
      cases z
      exact .inl ⟨e, hnt⟩
    · rw [add_ne hb] at z
      exact r.fr b u z
  · obtain ⟨b, x, e1, e2, e3, e4⟩ := r.hp n u z
    have hb : b ≠ a := fun y => hι n u z (by rw [← y]; exact e1)
    exact ⟨b, x, e1, e2, e3.mono l, by rw [add_ne hb]; exact e4⟩
  · obtain ⟨p1, p2, p3⟩ := r.pv q hq
    exact ⟨p1, by rw [add_ne (hp q hq)]; exact p2, p3⟩
def keyV : Key → D
  | .inl i => .int i
  | .inr x => .str x
theorem keyV_ok {k : Key} : VR g F ι (keyV k) (kV k) := by cases k <;> simp [keyV, kV, VR]
def itemsL (ks : List (Key × D)) : List D := ks.map fun p => .tup [keyV p.1, p.2]
/-- what the heap does not know yet -/
def Fresh (F : Kn) (ι : List Addr) (h : AH) (a : Addr) : Prop := F a = none ∧ (∀ (n : Nat) (u : O), h[n]? = some (some u) → ι[n]? ≠ some a) ∧ ∀ q ∈ F.pr, q.1 ≠ a
theorem HR.fresh (r : HR g F ι h H) {a : Addr} (hn : H a = none) : Fresh F ι h a := by
  refine ⟨r.free hn, fun n u z e => ?_, fun q hq e => ?_⟩
  · obtain ⟨b, x, e1, e2, _⟩ := r.hp n u z
    rw [e] at e1
    cases e1
    rw [hn] at e2
    cases e2
  · obtain ⟨p1, _⟩ := r.pv q hq
    rw [e, hn] at p1
    cases p1
theorem know_items : ∀ {ts : List Addr} {ks : List (Key × D)} {ws : List (Key × V)} {F : Kn}, HR g F ι h H → (∀ t ∈ ts, (F t = none ∨ ∃ vs, F t = some (.tup vs)) ∧ (∀ (n : Nat) (u : O), h[n]? = some (some u) → ι[n]? ≠ some t) ∧ ∀ q ∈ F.pr, q.1 ≠ t) →
    Paired (fun (t : Addr) (q : Key × V) => H t = some (.tup [kV q.1, q.2])) ts ws → VRk g F ι ks ws → ∃ F', Le F ι F' ι ∧ HR g F' ι h H ∧ VRs g F' ι (itemsL ks) (ts.map V.ref) ∧ ∀ b, b ∉ ts → F' b = F b
  | [], ks, ws, F, r, _, hp, rv => by
    cases hp
    cases ks with
    | nil => exact ⟨F, .refl, r, by simp [itemsL, VRs], fun _ _ => rfl⟩
    | cons k ks => obtain ⟨k', d⟩ := k; simp only [VRk] at rv; obtain ⟨_, _, z, _⟩ := rv; cases z
  | t :: ts, ks, ws, F, r, hf, hp, rv => by
    cases hp with
    | @cons _ q _ us ht hp =>
    cases ks with
    | nil => simp only [VRk] at rv; cases rv
    | cons k ks =>
      obtain ⟨k', d⟩ := k
      simp only [VRk] at rv
      obtain ⟨v, us', e, rd, rk⟩ := rv
      cases e
      obtain ⟨f1, f2, f3⟩ := hf t List.mem_cons_self
      have key : ∃ F1, Le F ι F1 ι ∧ HR g F1 ι h H ∧ F1 t = some (.tup [kV k', v]) ∧ (∀ b, b ≠ t → F1 b = F b) ∧ F1.pr = F.pr := by
        rcases f1 with f1 | ⟨vs, f1⟩
        · obtain ⟨r1, l1⟩ := r.know ht f1 (fun _ z => by cases z) f2 f3
          exact ⟨_, l1, r1, add_same, fun b hb => add_ne hb, rfl⟩
        · refine ⟨F, .refl, r, ?_, fun _ _ => rfl, rfl⟩
          rcases r.fr t _ f1 with ⟨z, _⟩ | ⟨_, _, z, _⟩
          · rw [ht] at z
            rw [f1, ← Option.some.inj z]
          · cases z
      obtain ⟨F1, l1, r1, ft, fo, fp⟩ := key
      obtain ⟨F2, l2, r2, rs, fo2⟩ := know_items (F := F1) r1 (fun x hx => by
        obtain ⟨g1, g2, g3⟩ := hf x (List.mem_cons_of_mem _ hx)
        refine ⟨?_, g2, by rw [fp]; exact g3⟩
        by_cases hx' : x = t
        · rw [hx', ft]; exact .inr ⟨_, rfl⟩
        · rw [fo x hx']; exact g1) hp (VRk.mono l1 _ _ rk)
      refine ⟨F2, l1.trans l2, r2, ?_, fun b hb => ?_⟩
      · simp only [itemsL, List.map_cons, VRs]
        refine ⟨.ref t, _, rfl, ?_, rs⟩
        simp only [VR, VRs]
        exact ⟨t, _, rfl, .inl (l2.fr _ _ ft), kV k', _, rfl, keyV_ok, v, _, rfl, VR.mono (l1.trans l2) _ _ rd, rfl⟩
      · rw [fo2 b fun z => hb (List.mem_cons_of_mem _ z), fo b fun z => hb (by rw [z]; exact List.mem_cons_self)]
def itmD (x : D) (h : AH) : Rv D := match dctAt x h with | some (_, ks) => .ok (.lst (itemsL ks)) h | none => .stuck
def mItems (m : ME) : ME := fun σ h => bindR (m σ h) itmD
theorem itm_ok {T : List (Addr × Str)} (hTi : g.Ti = Tabs T) (hr : HR g F ι h H) {x : D} {u : V} {σv : L2.St} {Q : VK} (rx : VR g F ι x u) (p : Post g W F ι σv (VR g) (itmD x h) Q) : rItemsL u H Q := by
  unfold itmD at p
  split at p
  · rename_i n ks e
    obtain ⟨l, ws, rfl, en, eo, q, rv⟩ := dctAt_ok hr e rx
    refine ⟨l, ws, rfl, q, fun H' pl ts hE hp hts hpt hl hpr => ?_⟩
    have hT : Tabs T H := by
      have this : g.Ti H := hr.ti
      rw [hTi] at this
      exact this
    have hr1 : HR g F ι h H' := hr.ext (fun b o e _ => hE b o e) (by show g.Ti H'; rw [hTi]; exact Tabs.more hT hE)
    obtain ⟨F1, l1, r1, rs, fo⟩ := know_items (F := F) (ks := ks) hr1 (fun t ht => by
      obtain ⟨a, b, c⟩ := hr.fresh (hts t ht)
      exact ⟨.inl a, b, c⟩) hpr rv
    obtain ⟨a, b, c⟩ := hr.fresh hp
    have pr1 : F1.pr = F.pr := l1.pr
    obtain ⟨r2, l2⟩ := r1.know hl (by rw [fo pl hpt]; exact a) (fun _ z => by cases z) b (by rw [pr1]; exact c)
    refine p _ ι H' (.ref pl) (l1.trans l2) r2 ?_
    simp only [VR]
    exact ⟨pl, _, rfl, add_same, VRs.mono l2 _ _ rs⟩
  · exact p.elim
theorem em_items {X : Cx} {T : List (Addr × Str)} {e : Expr} {m : ME} {p apos cpos pos : Pos} (hTi : g.Ti = Tabs T) (hc : X.calm = true) (he : PE X e (tE g W m)) (hg : Gl X "list") (hm : X.mg "list" = none) (hv : bootBuiltins "list" = some (.type "list"))
    (hbase : attributeBase e "items" X.env (eval e X.env) = eval e X.env := by rfl) (hline : (apos.endLine == cpos.line) = true := by rfl)
    (hs : starEach [.Call (.Attribute e "items" apos) [] [] cpos] X.env = (false, eval (.Call (.Attribute e "items" apos) [] [] cpos) X.env) :: starEach [] X.env := by rfl) :
    PE X (.Call (.Name "list" p) [.Call (.Attribute e "items" apos) [] [] cpos] [] pos) (tE g W (mItems m)) := by
  refine PE_weak (pe_listItems hc he hg hm hv hbase hline hs) ?_
  rintro σv H Q ⟨F, ι, σ, h, hr, lr, p⟩
  exact tM_bind (f := fun _ => itmD) hr lr p fun F1 ι1 H1 x h1 v l hr1 lr1 r1 p1 => itm_ok hTi hr1 r1 p1
end
end DV
end
section
set_option Elab.async false
set_option linter.all false
set_option maxRecDepth 100000
set_option maxHeartbeats 2000000
namespace DV
open PySem L2 PyProof.Rows PySem.Spec LamX SrtO LiI

/-! ### == of nested things with dicts, where it answers True -/
inductive EqV (K : PySem.W.Frag) (H : Hp) : Nat → V → V → Prop
  | leaf {n : Nat} {x y : V} {d e : PyData} : Dp K H x d → Dp K H y e → SeqAt.shaped d = true → SeqAt.shaped e = true → PyData.eqv d e = true → EqV K H n x y
  | lists {n : Nat} {a b : Addr} {xs ys : List V} : SqL K H a xs → SqL K H b ys → xs.length = ys.length → (∀ (j : Nat) (x y : V), xs[j]? = some x → ys[j]? = some y → EqV K H n x y) → EqV K H (n + 1) (.ref a) (.ref b)
  | tuples {n : Nat} {a b : Addr} {xs ys : List V} : SqT K H a xs → SqT K H b ys → xs.length = ys.length → (∀ (j : Nat) (x y : V), xs[j]? = some x → ys[j]? = some y → EqV K H n x y) → EqV K H (n + 1) (.ref a) (.ref b)
  | dicts {n : Nat} {a b : Addr} {ks ls : List (Key × V)} : Rd H a (.dK ks) → Rd H b (.dK ls) → ks.length = ls.length → (∀ k x, (k, x) ∈ ks → (valV ls k).isSome = true) → (∀ k x y, (k, x) ∈ ks → valV ls k = some y → EqV K H n x y) → EqV K H (n + 1) (.ref a) (.ref b)
section
variable {X : Cx} {pins : List (Addr × Obj)} {σ : L2.St} {H : Hp} {s : Shared}
theorem KV.mem {ks : List (Key × V)} {vs : List (Key × Value)} (r : KV ks vs) {k : Key} {u : Value} (h : (k, u) ∈ vs) : ∃ x, (k, x) ∈ ks ∧ RelV x u := by
  unfold KV at r
  induction r with
  | nil => simp at h
  | @cons p q ps qs hpq _ ih =>
    rcases List.mem_cons.mp h with e | h
    · subst e
      obtain ⟨k', x⟩ := p
      obtain ⟨e1, e2⟩ := hpq
      cases e1
      exact ⟨x, List.mem_cons_self, e2⟩
    · obtain ⟨x, h1, h2⟩ := ih h
      exact ⟨x, List.mem_cons_of_mem _ h1, h2⟩
theorem tup_is {h : Heap} {a : Addr} {vs : Array Value} (p : IsTup h a vs) : h.IsTuple a vs := by
  exact p
theorem eqv_tree (I : Inv X pins σ H s) : ∀ {n : Nat} {x y : V}, EqV X.K H n x y → ∀ {u w : Value}, RelV x u → RelV y w → PySem.W.EqTree X.prog X.w s (64 + n) u w true := by
  intro n x y h
  induction h with
  | @leaf n x y d e hd he sd se q =>
    intro u w rx ry
    obtain ⟨as, r1⟩ := Dp.reads I d x u hd rx
    obtain ⟨bs, r2⟩ := Dp.reads I e y w he ry
    refine .leaf fun A hu => ?_
    have z := SeqAt.eqAt_reads d e A s u w as bs r1 r2 (SeqAt.canLay_of_shaped sd) (SeqAt.canLay_of_shaped se) (SeqAt.room_of_shaped sd (by omega))
    rwa [q] at z
  | @lists n a b xs ys ha hb hl _ ih =>
    intro u w rx ry
    cases rx
    cases ry
    by_cases hab : a = b
    · subst hab
      exact .same
    · obtain ⟨its, r1, p1, _⟩ := I.list ha
      obtain ⟨jts, r2, p2, _⟩ := I.list hb
      have e1 := r1.length
      have e2 := r2.length
      have z := PySem.W.EqTree.lists (prog := X.prog) (w := X.w) (n := 64 + n) (e := fun _ => true) hab p1.isList p2.isList (by simp; omega) (fun j h1 h2 => by
        have g1 : j < xs.length := by simp at h1; omega
        have g2 : j < ys.length := by simp at h2; omega
        obtain ⟨u1, eu, ru⟩ := r1.get (List.getElem?_eq_getElem g1)
        obtain ⟨w1, ew, rw'⟩ := r2.get (List.getElem?_eq_getElem g2)
        have q := ih j xs[j] ys[j] (List.getElem?_eq_getElem g1) (List.getElem?_eq_getElem g2) ru rw'
        have k1 : its.toArray[j] = u1 := by
          have := (List.getElem?_eq_some_iff.mp eu).2
          simpa using this
        have k2 : jts.toArray[j] = w1 := by
          have := (List.getElem?_eq_some_iff.mp ew).2
          simpa using this
        rw [k1, k2]
        exact q)
      rw [List.all_eq_true.mpr fun _ _ => rfl] at z
      exact z
  | @tuples n a b xs ys ha hb hl _ ih =>
    intro u w rx ry
    cases rx
    cases ry
    by_cases hab : a = b
    · subst hab
      exact .same
    · obtain ⟨its, r1, p1, _⟩ := I.tuple ha
      obtain ⟨jts, r2, p2, _⟩ := I.tuple hb
      have e1 := r1.length
      have e2 := r2.length
      have z := PySem.W.EqTree.tuples (prog := X.prog) (w := X.w) (n := 64 + n) (e := fun _ => true) hab (tup_is p1) (tup_is p2) (fun j h1 h2 => by
        have g1 : j < xs.length := by simp at h1; omega
        have g2 : j < ys.length := by simp at h2; omega
        obtain ⟨u1, eu, ru⟩ := r1.get (List.getElem?_eq_getElem g1)
        obtain ⟨w1, ew, rw'⟩ := r2.get (List.getElem?_eq_getElem g2)
        have q := ih j xs[j] ys[j] (List.getElem?_eq_getElem g1) (List.getElem?_eq_getElem g2) ru rw'
        have k1 : its.toArray[j] = u1 := by
          have := (List.getElem?_eq_some_iff.mp eu).2
          simpa using this
        have k2 : jts.toArray[j] = w1 := by
          have := (List.getElem?_eq_some_iff.mp ew).2
          simpa using this
        rw [k1, k2]
        exact q)
      have e3 : its.length = jts.length := by omega
      have e4 : (its.toArray.size == jts.toArray.size) = true := by simp [e3]
      rw [List.all_eq_true.mpr fun _ _ => rfl, e4] at z
      exact z
  | @dicts n a b ks ls ha hb hl hs _ ih =>
    intro u w rx ry
    cases rx
    cases ry
    by_cases hab : a = b
    · subst hab
      exact .same
    · obtain ⟨_, ya, va, ra, da⟩ := dk_rd I.hok ha
      obtain ⟨_, yb, vb, rb, db⟩ := dk_rd I.hok hb
      have e1 : ks.length = va.length := Paired.length ra
      have e2 : ls.length = vb.length := Paired.length rb
      have z := PySem.W.EqTree.dicts (prog := X.prog) (w := X.w) (s := s) (n := 64 + n) (e := fun _ => true) hab ya yb da db (fun k v y hm hv => by
        obtain ⟨x, hx, rx⟩ := KV.mem ra hm
        have o := KV.val rb k
        rw [hv] at o
        cases hy : valV ls k with
        | none => rw [hy] at o; exact absurd o (by simp [RelO])
        | some y' =>
          rw [hy] at o
          exact ih k x y' hx hy rx o)
      have all : (va.all fun p => (valueAt vb p.1).isSome && true) = true := by
        rw [List.all_eq_true]
        rintro ⟨k, v⟩ hm
        obtain ⟨x, hx, rx⟩ := KV.mem ra hm
        have o := KV.val rb k
        have hs' := hs k x hx
        cases hy : valV ls k with
        | none => rw [hy] at hs'; cases hs'
        | some y' =>
          rw [hy] at o
          cases hz : valueAt vb k with
          | none => rw [hz] at o; exact absurd o (by simp [RelO])
          | some _ => simp
      have e3 : (va.length == vb.length) = true := by simp; omega
      rw [all, e3] at z
      exact z
theorem op_eqT (hu : X.A.units + 140 < cLine) : OpR X (compareOp .Eq) (fun x y H Q => ∃ n, n ≤ 20 ∧ EqV X.K H (n + 1) x y ∧ (∃ a, x = .ref a) ∧ (∃ a, y = .ref a) ∧ Q (.bl true) H) := by
  rintro pins s σ H x y v u Q I rx ry ⟨n, hn, h, ⟨a, rfl⟩, ⟨b, rfl⟩, q⟩
  cases rx
  cases ry
  have fb : ∀ z : Bool, z = true → EP X pins σ Q (.bool z) s := fun z hz => ⟨.bl true, H, I, by rw [hz]; rfl, q⟩
  cases h with
  | leaf hd he sd se q =>
    obtain ⟨as, r1⟩ := Dp.reads I _ _ (.ref a) hd rfl
    obtain ⟨bs, r2⟩ := Dp.reads I _ _ (.ref b) he rfl
    exact SeqAt.compareEq_shaped r1 r2 sd se (by omega) (fb _ q)
  | @lists n a b xs ys ha hb hl hh =>
    obtain ⟨its, r1, p1, _⟩ := I.list ha
    obtain ⟨jts, r2, p2, _⟩ := I.list hb
    have e1 := r1.length
    have e2 := r2.length
    refine PySem.W.eq_listsT (n := 64 + n) (e := fun _ => true) p1.isList p2.isList (by simp; omega) (fun j h1 h2 => ?_) (by omega) (fb _ (List.all_eq_true.mpr fun _ _ => rfl))
    have g1 : j < xs.length := by simp at h1; omega
    have g2 : j < ys.length := by simp at h2; omega
    obtain ⟨u1, eu, ru⟩ := r1.get (List.getElem?_eq_getElem g1)
    obtain ⟨w1, ew, rw'⟩ := r2.get (List.getElem?_eq_getElem g2)
    have q := eqv_tree I (hh j xs[j] ys[j] (List.getElem?_eq_getElem g1) (List.getElem?_eq_getElem g2)) ru rw'
    have k1 : its.toArray[j] = u1 := by
      have := (List.getElem?_eq_some_iff.mp eu).2
      simpa using this
    have k2 : jts.toArray[j] = w1 := by
      have := (List.getElem?_eq_some_iff.mp ew).2
      simpa using this
    rw [k1, k2]
    exact q
  | @tuples n a b xs ys ha hb hl hh =>
    obtain ⟨its, r1, p1, _⟩ := I.tuple ha
    obtain ⟨jts, r2, p2, _⟩ := I.tuple hb
    have e1 := r1.length
    have e2 := r2.length
    have e3 : its.length = jts.length := by omega
    refine PySem.W.eq_tuplesT (n := 64 + n) (e := fun _ => true) (tup_is p1) (tup_is p2) (fun j h1 h2 => ?_) (by omega) (fb _ (by rw [List.all_eq_true.mpr fun _ _ => rfl]; simp [e3]))
    have g1 : j < xs.length := by simp at h1; omega
    have g2 : j < ys.length := by simp at h2; omega
    obtain ⟨u1, eu, ru⟩ := r1.get (List.getElem?_eq_getElem g1)
    obtain ⟨w1, ew, rw'⟩ := r2.get (List.getElem?_eq_getElem g2)
    have q := eqv_tree I (hh j xs[j] ys[j] (List.getElem?_eq_getElem g1) (List.getElem?_eq_getElem g2)) ru rw'
    have k1 : its.toArray[j] = u1 := by
      have := (List.getElem?_eq_some_iff.mp eu).2
      simpa using this
    have k2 : jts.toArray[j] = w1 := by
      have := (List.getElem?_eq_some_iff.mp ew).2
      simpa using this
    rw [k1, k2]
    exact q
  | @dicts n a b ks ls ha hb hl hs hh =>
    obtain ⟨_, ya, va, ra, da⟩ := dk_rd I.hok ha
    obtain ⟨_, yb, vb, rb, db⟩ := dk_rd I.hok hb
    have e1 : ks.length = va.length := Paired.length ra
    have e2 : ls.length = vb.length := Paired.length rb
    have e3 : (va.length == vb.length) = true := by simp; omega
    refine PySem.W.eq_dictsT (n := 64 + n) (e := fun _ => true) ya yb da db (fun k v y hm hv => ?_) (by omega) (fb _ ?_)
    · obtain ⟨x, hx, rx⟩ := KV.mem ra hm
      have o := KV.val rb k
      rw [hv] at o
      cases hy : valV ls k with
      | none => rw [hy] at o; exact absurd o (by simp [RelO])
      | some y' =>
        rw [hy] at o
        exact eqv_tree I (hh k x y' hx hy) rx o
    · rw [e3, Bool.true_and, List.all_eq_true]
      rintro ⟨k, v⟩ hm
      obtain ⟨x, hx, rx⟩ := KV.mem ra hm
      have o := KV.val rb k
      have hs' := hs k x hx
      cases hy : valV ls k with
      | none => rw [hy] at hs'; cases hs'
      | some y' =>
        rw [hy] at o
        cases hz : valueAt vb k with
        | none => rw [hz] at o; exact absurd o (by simp [RelO])
        | some _ => simp
end
/-! the plain side -/
def all2 (f : D → D → Bool) : List D → List D → Bool
  | [], [] => true
  | x :: xs, y :: ys => f x y && all2 f xs ys
  | _, _ => false
def eqTr : Nat → AH → D → D → Bool
  | 0, _, _, _ => false
  | n + 1, h, a, b => match toP 20 h a, toP 20 h b with
    | some x, some y => PyData.eqv x y
    | _, _ => match a, b with
      | .tup xs, .tup ys => all2 (eqTr n h) xs ys
      | a, b => match getL h a, getL h b with
        | some xs, some ys => all2 (eqTr n h) xs ys
        | _, _ => match getK h a, getK h b with
          | some ks, some ls => decide (ks.length = ls.length) && ks.all fun p => match lkK ls p.1 with | some e => eqTr n h p.2 e | none => false
          | _, _ => false
theorem all2_ok {f : D → D → Bool} : ∀ {xs ys : List D}, all2 f xs ys = true → xs.length = ys.length ∧ ∀ (j : Nat) (x y : D), xs[j]? = some x → ys[j]? = some y → f x y = true
  | [], [], _ => ⟨rfl, fun j x y h => by simp at h⟩
  | x :: xs, y :: ys, h => by
    rw [all2, Bool.and_eq_true] at h
    obtain ⟨h1, h2⟩ := all2_ok h.2
    refine ⟨by simp [h1], fun j a b ha hb => ?_⟩
    cases j with
    | zero => simp at ha hb; subst ha hb; exact h.1
    | succ j => exact h2 j a b (by simpa using ha) (by simpa using hb)
  | [], _ :: _, h => by simp [all2] at h
  | _ :: _, [], h => by simp [all2] at h
section
variable {g : DV.G} {F : Kn} {ι : List Addr} {h : AH} {H : Hp}
theorem VRs.back : ∀ {ds : List D} {vs : List V}, VRs g F ι ds vs → ∀ (i : Nat) (v : V), vs[i]? = some v → ∃ d, ds[i]? = some d ∧ VR g F ι d v
  | [], vs, r, i, v, e => by simp only [VRs] at r; subst r; simp at e
  | d :: ds, vs, r, i, v, e => by
    simp only [VRs] at r
    obtain ⟨u, us, rfl, r0, r⟩ := r
    cases i with
    | zero => simp at e; subst e; exact ⟨d, rfl, r0⟩
    | succ i => exact VRs.back r i v (by simpa using e)
theorem VRk.back : ∀ {ks : List (Key × D)} {ws : List (Key × V)}, VRk g F ι ks ws → ∀ (k : Key) (x : V), (k, x) ∈ ws → ∃ d, (k, d) ∈ ks ∧ VR g F ι d x
  | [], ws, r, k, x, e => by simp only [VRk] at r; subst r; simp at e
  | (k', d) :: ks, ws, r, k, x, e => by
    simp only [VRk] at r
    obtain ⟨v, us, rfl, r0, r⟩ := r
    rcases List.mem_cons.mp e with e | e
    · cases e; exact ⟨d, List.mem_cons_self, r0⟩
    · obtain ⟨d', h1, h2⟩ := VRk.back r k x e
      exact ⟨d', List.mem_cons_of_mem _ h1, h2⟩
theorem eqTr_ok (hr : HR g F ι h H) : ∀ (n : Nat) (a b : D) (x y : V), eqTr n h a b = true → VR g F ι a x → VR g F ι b y → EqV g.K H n x y
  | 0, a, b, x, y, e, _, _ => by simp [eqTr] at e
  | n + 1, a, b, x, y, e, ra, rb => by
    have leaf : ∀ p q, toP 20 h a = some p → toP 20 h b = some q → PyData.eqv p q = true → EqV g.K H (n + 1) x y := fun p q e1 e2 e3 => by
      obtain ⟨a1, a2, a3⟩ := toP_ok hr 20 a x p e1 ra
      obtain ⟨b1, b2, b3⟩ := toP_ok hr 20 b y q e2 rb
      exact .leaf a1 b1 (by unfold SeqAt.shaped; simp [a2]; omega) (by unfold SeqAt.shaped; simp [b2]; omega) e3
    have seq : ∀ {xs ys : List D} {vs us : List V}, all2 (eqTr n h) xs ys = true → VRs g F ι xs vs → VRs g F ι ys us → vs.length = us.length ∧ ∀ (j : Nat) (x y : V), vs[j]? = some x → us[j]? = some y → EqV g.K H n x y := fun hh r1 r2 => by
      obtain ⟨l1, l2⟩ := all2_ok hh
      refine ⟨by rw [r1.length, r2.length, l1], fun j x y ex ey => ?_⟩
      obtain ⟨d1, e1, q1⟩ := r1.back j x ex
      obtain ⟨d2, e2, q2⟩ := r2.back j y ey
      exact eqTr_ok hr n d1 d2 x y (l2 j d1 d2 e1 e2) q1 q2
    unfold eqTr at e
    split at e
    · rename_i p q e1 e2
      exact leaf p q e1 e2 e
    · split at e
      · rename_i xs ys
        obtain ⟨p, vs, rfl, t1, t2⟩ := tup_ok hr ra
        obtain ⟨q, us, rfl, s1, s2⟩ := tup_ok hr rb
        obtain ⟨l1, l2⟩ := seq e t2 s2
        exact .tuples t1 s1 l1 l2
      · split at e
        · rename_i xs ys e1 e2
          obtain ⟨p, vs, rfl, t1, t2⟩ := getL_ok hr e1 ra
          obtain ⟨q, us, rfl, s1, s2⟩ := getL_ok hr e2 rb
          obtain ⟨l1, l2⟩ := seq e t2 s2
          exact .lists t1 s1 l1 l2
        · split at e
          · rename_i ks ls e1 e2
            obtain ⟨p, vs, rfl, t1, t2⟩ := getK_ok hr e1 ra
            obtain ⟨q, us, rfl, s1, s2⟩ := getK_ok hr e2 rb
            rw [Bool.and_eq_true, decide_eq_true_iff, List.all_eq_true] at e
            obtain ⟨e3, e4⟩ := e
            have one : ∀ k x, (k, x) ∈ vs → ∃ d e, VR g F ι d x ∧ lkK ls k = some e ∧ eqTr n h d e = true := fun k x hm => by
              obtain ⟨d, m, r⟩ := VRk.back t2 k x hm
              have z := e4 (k, d) m
              dsimp only at z
              split at z
              · rename_i e' q'
                exact ⟨d, e', r, q', z⟩
              · cases z
            refine .dicts t1 s1 (by rw [VRk.length t2, VRk.length s2, e3]) (fun k x hm => ?_) (fun k x y hm hy => ?_)
            · obtain ⟨d, e, r, q1, q2⟩ := one k x hm
              obtain ⟨v, z1, z2⟩ := (VRk.val (k := k) s2).1 e q1
              rw [z1]
              rfl
            · obtain ⟨d, e, r, q1, q2⟩ := one k x hm
              obtain ⟨v, z1, z2⟩ := (VRk.val (k := k) s2).1 e q1
              rw [hy] at z1
              cases z1
              exact eqTr_ok hr n d e x y q2 r z2
          · cases e
def isRefD (h : AH) (d : D) : Bool := match d with | .tup _ => true | .dct _ => true | d => (getL h d).isSome || (getK h d).isSome
def dEqT (a b : D) (h : AH) : Rv D := if (eqTr 12 h a b && isRefD h a && isRefD h b) = true then .ok (.bl true) h else .stuck
theorem isRefD_ok (hr : HR g F ι h H) {d : D} {v : V} (e : isRefD h d = true) (r : VR g F ι d v) : ∃ a, v = .ref a := by
  unfold isRefD at e
  split at e
  · obtain ⟨a, _, rfl, _⟩ := tup_ok hr r; exact ⟨a, rfl⟩
  · simp only [VR] at r; obtain ⟨a, _, rfl, _⟩ := r; exact ⟨a, rfl⟩
  · rw [Bool.or_eq_true] at e
    rcases e with e | e
    · obtain ⟨ds, q⟩ := Option.isSome_iff_exists.mp e
      obtain ⟨a, _, rfl, _⟩ := getL_ok hr q r
      exact ⟨a, rfl⟩
    · obtain ⟨ds, q⟩ := Option.isSome_iff_exists.mp e
      obtain ⟨a, _, rfl, _⟩ := getK_ok hr q r
      exact ⟨a, rfl⟩
theorem ok_eqT : OpOk g (fun x y H Q => ∃ n, n ≤ 20 ∧ EqV g.K H (n + 1) x y ∧ (∃ a, x = .ref a) ∧ (∃ a, y = .ref a) ∧ Q (.bl true) H) dEqT := by
  intro W F ι h H σv a b v u Q hr ra rb p
  unfold dEqT at p
  split at p
  · rename_i e
    rw [Bool.and_eq_true, Bool.and_eq_true] at e
    exact ⟨11, by omega, eqTr_ok hr 12 a b v u e.1.1 ra rb, isRefD_ok hr e.1.2 ra, isRefD_ok hr e.2 rb, finb p hr⟩
  · exact p.elim
end
end DV
end
section
set_option Elab.async false
set_option linter.all false
set_option maxRecDepth 100000
set_option maxHeartbeats 2000000
namespace DV
open PySem L2 PyProof.Rows PySem.Spec LamX SrtO LiI

theorem op_eqTK {X : Cx} {g : DV.G} (hK : X.K = g.K) (hu : X.A.units + 140 < cLine) : OpR X (compareOp .Eq) (fun x y H Q => ∃ n, n ≤ 20 ∧ EqV g.K H (n + 1) x y ∧ (∃ a, x = .ref a) ∧ (∃ a, y = .ref a) ∧ Q (.bl true) H) := by rw [← hK]; exact op_eqT hu
theorem units140 {k : Nat} {A : Around} (hr : Room k A) : A.units + 140 < cLine := by have := hr.un; omega
theorem units1 {k : Nat} {A : Around} (hr : Room k A) : A.units + 1 < cLine := by have := hr.un; omega
/-! ### min of a list of pairs of ints -/
def leastP (p : Int × Int) (ps : List (Int × Int)) : Int × Int := ps.foldl (fun a y => if lexB y a = true then y else a) p
def pP (q : Int × Int) : PyData := .tuple [.int q.1, .int q.2]
theorem lt_pP (p q : Int × Int) : PySem.W.dataLt (pP p) (pP q) = lexB p q := by
  unfold pP lexB
  rw [PySem.W.dataLt_ii]
  by_cases e : p.1 = q.1
  · rw [if_pos e]
    by_cases e2 : p.2 < q.2 <;> simp [e, e2]
  · rw [if_neg e]
    by_cases e2 : p.1 < q.1 <;> simp [e, e2]
theorem alike_pP (ps : List (Int × Int)) : PySem.W.AlikeAll (ps.map pP) := by
  refine ⟨fun x hx y hy => ?_, fun x hx => ?_⟩
  · obtain ⟨p, _, rfl⟩ := List.mem_map.mp hx
    obtain ⟨q, _, rfl⟩ := List.mem_map.mp hy
    simp [pP, PySem.W.alike, PySem.W.alikeAll]
  · obtain ⟨p, _, rfl⟩ := List.mem_map.mp hx
    simp [pP]
theorem minD_pP : ∀ (ps : List (Int × Int)) (p : Int × Int), PySem.W.minD (pP p) (ps.map pP) = pP (leastP p ps)
  | [], p => rfl
  | q :: ps, p => by
    unfold PySem.W.minD leastP
    rw [List.map_cons, List.foldl_cons, List.foldl_cons, lt_pP]
    by_cases h : lexB q p = true
    · rw [if_pos h, if_pos h]; exact minD_pP ps q
    · rw [if_neg h, if_neg h]; exact minD_pP ps p
def rMinP (K : PySem.W.Frag) : List V → Hp → VK → Prop := fun vs H Q => ∃ (a : Addr) (p : PQ) (ps : List PQ), vs = [V.ref a] ∧ SqL K H a ((p :: ps).map pQ) ∧ (∀ q ∈ p :: ps, SqT K H q.1 [.int q.2.1, .int q.2.2]) ∧ ∀ q ∈ p :: ps, q.2 = leastP p.2 (ps.map (·.2)) → Q (pQ q) H
section
variable {X : Cx} {g : DV.G} {W : WX} {F : Kn} {ι : List Addr} {h : AH} {H : Hp}
theorem dep_pP : ∀ ps : List (Int × Int), PyData.depthAll (ps.map pP) ≤ 1
  | [] => by simp [PyData.depthAll]
  | p :: ps => by
    have := dep_pP ps
    simp only [List.map_cons, PyData.depthAll, pP, PyData.depth]
    simp [PyData.depth, PyData.depthAll]
    omega
theorem cr_minP (hc : X.calm = true) (hu : X.A.units + 140 < cLine) : CallR X (.builtin "min") (rMinP X.K) := by
  intro pins s σ H vs us Q I r h
  obtain ⟨a, p, ps, rfl, hs, ht, q⟩ := h
  obtain ⟨its, rv, pl, hz⟩ := I.list hs
  rw [Vals.ref1 r]
  have rd : ∀ (l : List PQ) (us : List Value), (∀ q ∈ l, SqT X.K H q.1 [.int q.2.1, .int q.2.2]) → Vals (l.map pQ) us → ∃ as, ReadsAll s.heap us (l.map fun q => pP q.2) as := by
    intro l
    induction l with
    | nil => intro us _ rv; cases rv; exact ⟨_, .nil⟩
    | cons q l ih =>
      intro us ht rv
      cases rv with
      | cons r1 r2 =>
        obtain ⟨bs, q2⟩ := ih _ (fun x hx => ht x (List.mem_cons_of_mem _ hx)) r2
        obtain ⟨as, q1⟩ := Dp.reads I (pP q.2) (pQ q) _ (.tup (ht q List.mem_cons_self) (.cons (.int _) (.cons (.int _) .nil))) r1
        exact ⟨_, .cons q1 q2⟩
  obtain ⟨as, hr⟩ := rd (p :: ps) its ht rv
  have hd := dep_pP ((p :: ps).map (·.2))
  have e1 : ((p :: ps).map fun q => pP q.2) = pP p.2 :: (ps.map (·.2)).map pP := by simp
  have e2 : ((p :: ps).map (·.2)).map pP = pP p.2 :: (ps.map (·.2)).map pP := by simp
  rw [e1] at hr
  rw [e2] at hd
  have al := alike_pP ((p :: ps).map (·.2))
  rw [e2] at al
  refine PySem.W.min_list_data (I.ok.hd hc) pl.isList (by simpa using hr) al (by omega) fun i v h' tk bs hv hrd hk => ?_
  have hv' : its[i]? = some v := by simpa using hv
  have hi : i < its.length := (List.getElem?_eq_some_iff.mp hv').1
  have hl := rv.length
  have hi2 : i < (p :: ps).length := by simp at hl hi ⊢; omega
  obtain ⟨w, ew, rw'⟩ := rv.get (show ((p :: ps).map pQ)[i]? = some (pQ (p :: ps)[i]) by rw [List.getElem?_map, List.getElem?_eq_getElem hi2]; rfl)
  rw [hv'] at ew
  cases ew
  have hm : (p :: ps)[i] ∈ p :: ps := List.getElem_mem hi2
  generalize (p :: ps)[i] = z at rw' hm
  have tz := ht z hm
  obtain ⟨jts, r2, ⟨o, ho, hcl, n, hdt⟩, _⟩ := I.tuple tz
  rw [minD_pP] at hrd
  have ev : v = .ref z.1 := rw'
  subst ev
  have key : z.2 = leastP p.2 (ps.map (·.2)) := by
    generalize leastP p.2 (ps.map (·.2)) = m at hrd ⊢
    obtain ⟨m1, m2⟩ := m
    obtain ⟨za, z1, z2⟩ := z
    unfold pP at hrd
    cases hrd with
    | tuple h1 h2 h3 h4 =>
      rw [hk _ _ ho] at h1
      cases h1
      rw [hdt] at h3
      cases h3
      cases r2 with
      | cons s1 r2 =>
      cases r2 with
      | cons s2 r2 =>
      cases r2
      obtain ⟨t1, rfl⟩ := s1
      obtain ⟨t2, rfl⟩ := s2
      have h4 : ReadsAll h' [.int z1 t1, .int z2 t2] [.int m1, .int m2] _ := h4
      cases h4 with
      | cons a1 a2 =>
      cases a2 with
      | cons a3 a4 =>
      cases a1
      cases a3
      rfl
  exact ⟨pQ z, H, I.kept hk, rfl, q z hm key⟩
end
end DV
end
section
set_option Elab.async false
set_option linter.all false
set_option maxRecDepth 100000
set_option maxHeartbeats 2000000
namespace DV
open PySem L2 PyProof.Rows PySem.Spec LamX SrtO LiI

/-! ### min of ints or of pairs of ints -/
def bMinG (ds : List D) (h : AH) : Rv D := match ds with
  | [d] => match (getS h d).bind intsD with
    | some (n :: ns) => .ok (.int (leastI n ns)) h
    | some [] => .stuck
    | none => match (getL h d).bind pairsD with
      | some (p :: ps) => .ok (pD (leastP p ps)) h
      | _ => .stuck
  | _ => .stuck
section
variable {X : Cx} {g : DV.G} {W : WX} {F : Kn} {ι : List Addr} {h : AH} {H : Hp}
theorem k_minG : CallOk g (fun vs H Q => rMinE g.K vs H Q ∨ rMinP g.K vs H Q) bMinG := by
  intro W F ι h H σv ds vs Q hr rv p
  unfold bMinG at p
  split at p
  · rename_i d
    cases e : (getS h d).bind intsD with
    | some l =>
      cases l with
      | nil => rw [e] at p; exact p.elim
      | cons n ns =>
        rw [e] at p
        have p' : Post g W F ι σv (VR g) (bMin [d] h) Q := by
          unfold bMin
          simp only [e]
          exact p
        exact .inl (k_min W F ι h H σv [d] vs Q hr rv p')
    | none =>
      rw [e] at p
      obtain ⟨v, rfl, r⟩ := one1 rv
      cases e2 : getL h d with
      | none => rw [e2] at p; exact p.elim
      | some xs =>
        rw [e2] at p
        cases e3 : pairsD xs with
        | none =>
          rw [show (some xs).bind pairsD = none from e3] at p
          exact p.elim
        | some qs =>
          rw [show (some xs).bind pairsD = some qs from e3] at p
          cases qs with
          | nil => exact p.elim
          | cons q qs =>
            obtain ⟨a, ws, rfl, s1, s2⟩ := getL_ok hr e2 r
            rw [pairsD_eq e3] at s2
            obtain ⟨ps, rfl, e4, hp⟩ := pairs_at hr s2
            cases ps with
            | nil => cases e4
            | cons z zs =>
              rw [List.map_cons] at e4
              injection e4 with e5 e6
              subst e5 e6
              refine .inr ⟨a, z, zs, rfl, s1, fun x hx => (hp x hx).1, fun x hx hm => ?_⟩
              have p : Post g W F ι σv (VR g) (.ok (pD (leastP z.2 (zs.map (·.2)))) h) Q := p
              rw [← hm] at p
              exact fin p hr (hp x hx).2
  · exact p.elim
theorem c_minG (hK : X.K = g.K) (hc : X.calm = true) (hu : X.A.units + 140 < cLine) : CallR X (.builtin "min") (fun vs H Q => rMinE g.K vs H Q ∨ rMinP g.K vs H Q) := by
  rw [← hK]
  exact (cr_minE hc).or (cr_minP hc hu)
/-! ### displayed dicts -/
def mPrs : List (ME × ME) → AS → AH → Rv (List (D × D))
  | [], _, h => .ok [] h
  | (mk, mv) :: r, σ, h => bindR (mk σ h) fun k h1 => bindR (mv σ h1) fun v h2 => bindR (mPrs r σ h2) fun ps h3 => .ok ((k, v) :: ps) h3
def keyPs : List (D × D) → Option (List (Key × D))
  | [] => some []
  | (k, v) :: r => match keyD k, keyPs r with | some k, some ks => some ((k, v) :: ks) | _, _ => none
def dispF (mu : Bool) (n : Nat) (ps : List (D × D)) (h : AH) : Rv D := match keyPs ps, h[n]? with
  | some ks, some (some (.dct [])) => if ks.length ≤ 15 then (if mu = true then .ok (.ref n) (h.set n (some (.dct (mergeKd [] ks)))) else frzD (.ref n) (h.set n (some (.dct (mergeKd [] ks))))) else .stuck
  | _, _ => .stuck
def mDisp (mu : Bool) (prs : List (ME × ME)) : ME := fun σ h => bindR (mPrs prs σ (h ++ [some (.dct [])])) (dispF mu h.length)
def VRp (g : DV.G) (F : Kn) (ι : List Addr) (ps : List (D × D)) (vs : List (V × V)) : Prop := Paired (fun p q => VR g F ι p.1 q.1 ∧ VR g F ι p.2 q.2) ps vs
theorem VRp.mono {F1 : Kn} {ι1 : List Addr} (l : Le F ι F1 ι1) : ∀ {ps : List (D × D)} {vs : List (V × V)}, VRp g F ι ps vs → VRp g F1 ι1 ps vs
  | _, _, .nil => .nil
  | _, _, .cons h t => .cons ⟨VR.mono l _ _ h.1, VR.mono l _ _ h.2⟩ (VRp.mono l t)
theorem prs_weak : ∀ (prs : List (ME × ME)) {σ : AS} {h : AH} {H : Hp} {F : Kn} {ι : List Addr} {σv : L2.St} {f : List (D × D) → AH → Rv D} {Q : List (V × V) → Hp → Prop} {Q' : VK}, HR g F ι h H → LR g F ι σ σv → Post g W F ι σv (VR g) (bindR (mPrs prs σ h) f) Q' →
    (∀ F1 ι1 H1 ps h1 vs, Le F ι F1 ι1 → HR g F1 ι1 h1 H1 → VRp g F1 ι1 ps vs → Post g W F1 ι1 σv (VR g) (f ps h1) Q' → Q vs H1) → tPairs (prs.map fun p => (tE g W p.1, tE g W p.2)) σv H Q
  | [], σ, h, H, F, ι, σv, f, Q, Q', hr, lr, p, k => k F ι H [] h [] .refl hr .nil p
  | (mk, mv) :: r, σ, h, H, F, ι, σv, f, Q, Q', hr, lr, p, k => by
    have p : Post g W F ι σv (VR g) (bindR (bindR (mk σ h) fun k h1 => bindR (mv σ h1) fun v h2 => bindR (mPrs r σ h2) fun ps h3 => .ok ((k, v) :: ps) h3) f) Q' := p
    rw [bindR_assoc] at p
    refine tM_bind (f := fun σ x h1 => bindR (bindR (mv σ h1) fun v h2 => bindR (mPrs r σ h2) fun ps h3 => .ok ((x, v) :: ps) h3) f) hr lr p fun F1 ι1 H1 x h1 v l1 hr1 lr1 r1 p1 => ?_
    rw [bindR_assoc] at p1
    refine tM_bind (f := fun σ y h2 => bindR (bindR (mPrs r σ h2) fun ps h3 => .ok ((x, y) :: ps) h3) f) hr1 lr1 p1 fun F2 ι2 H2 y h2 u l2 hr2 lr2 r2 p2 => ?_
    rw [bindR_assoc] at p2
    exact prs_weak r (f := fun ps h3 => f ((x, y) :: ps) h3) hr2 lr2 p2 fun F3 ι3 H3 ps h3 vs l3 hr3 r3 p3 => k F3 ι3 H3 ((x, y) :: ps) h3 ((v, u) :: vs) (l1.trans (l2.trans l3)) hr3 (.cons ⟨VR.mono (l2.trans l3) _ _ r1, VR.mono l3 _ _ r2⟩ r3) p3
theorem keyPs_ok : ∀ {ps : List (D × D)} {vs : List (V × V)} {ks : List (Key × D)}, keyPs ps = some ks → VRp g F ι ps vs → ∃ ws : List (Key × V), vs = ws.map (fun kv => (kV kv.1, kv.2)) ∧ VRk g F ι ks ws
  | [], vs, ks, e, r => by cases e; cases r; exact ⟨[], rfl, by simp [VRk]⟩
  | (k, d) :: ps, vs, ks, e, r => by
    unfold keyPs at e
    cases r with
    | @cons _ q _ us r0 r =>
    split at e
    · rename_i k' ks' e1 e2
      cases e
      obtain ⟨ws, rfl, rk⟩ := keyPs_ok e2 r
      have ek := keyD_ok e1 r0.1
      obtain ⟨q1, q2⟩ := q
      have ek : q1 = kV k' := ek
      subst ek
      exact ⟨(k', q2) :: ws, rfl, by simp only [VRk]; exact ⟨q2, ws, rfl, r0.2, rk⟩⟩
    · cases e
theorem disp_weak (t : TiOk g) (mu : Bool) (prs : List (ME × ME)) : ∀ σv H Q, tE g W (mDisp mu prs) σv H Q → tDisp (prs.map fun p => (tE g W p.1, tE g W p.2)) σv H Q := by
  rintro σv H Q ⟨F, ι, σ, h, hr, lr, p⟩
  intro l hl
  obtain ⟨hr1, l1⟩ := hr.newO t hl (o := .dct []) (x := .dK []) ⟨[], rfl, by simp [VRk]⟩
  have hat : (ι ++ [l])[h.length]? = some l := by rw [← hr.len]; simp
  refine prs_weak prs hr1 (lr.mono l1) (Post.le l1 p) fun F1 ι1 H1 ps h1 vs l2 hr2 rp p2 => ?_
  unfold dispF at p2
  split at p2
  · rename_i ks e1 eo
    split at p2
    · rename_i hz
      obtain ⟨ws, rfl, rk⟩ := keyPs_ok e1 rp
      have en := l2.at hat
      obtain ⟨b, x, q1, q2, ⟨us, rfl, q3⟩, q4⟩ := hr2.hp h.length _ eo
      rw [en] at q1
      cases q1
      simp only [VRk] at q3
      subst q3
      have hr3 := dctAt_put t hr2 en eo q2 (VRk.merge rk (by simp [VRk] : VRk g F1 ι1 [] []))
      have rv : VR g F1 ι1 (.ref h.length) (.ref l) := by simp only [VR]; exact ⟨l, rfl, en⟩
      refine ⟨q2, ws, rfl, by rw [VRk.length rk]; exact hz, ?_⟩
      cases mu with
      | true => exact fin p2 hr3 rv
      | false => exact frz_ok hr3 rv p2
    · exact p2.elim
  · exact p2.elim
theorem em_disp {pos : Pos} {keys : List (Option Expr)} {values : List Expr} (t : TiOk g) (mu : Bool) {prs : List (ME × ME)} (h : PPs X pos keys values (prs.map fun p => (tE g W p.1, tE g W p.2))) (hall : keys.all (·.isSome) = true := by rfl) (hl : keys.length = values.length := by rfl) (h0 : keys ≠ [] := by intro z; cases z)
    (h15 : keys.length ≤ 15 := by decide) : PE X (.Dict keys values pos) (tE g W (mDisp mu prs)) := PE_weak (pe_disp h hall hl h0 h15) (disp_weak t mu prs)
theorem dm_nil {pos : Pos} : PPs X pos [] [] (([] : List (ME × ME)).map fun p => (tE g W p.1, tE g W p.2)) := pps_nil
theorem dm_cons {pos : Pos} {k v : Expr} {ks : List (Option Expr)} {vs : List Expr} {mk mv : ME} {prs : List (ME × ME)} (hk : PE X k (tE g W mk)) (hv : PE X v (tE g W mv)) (hr : PPs X pos ks vs (prs.map fun p => (tE g W p.1, tE g W p.2))) : PPs X pos (some k :: ks) (v :: vs) (((mk, mv) :: prs).map fun p => (tE g W p.1, tE g W p.2)) := pps_cons hk hv hr
def mDNew (mu : Bool) : ME := fun _ h => mkK mu [] h
theorem em_dnew {pos : Pos} (t : TiOk g) (mu : Bool) : PE X (.Dict [] [] pos) (tE g W (mDNew mu)) := by
  refine PE_weak pe_dnewK ?_
  rintro σv H Q ⟨F, ι, σ, h, hr, lr, p⟩
  exact fun l hl => mkK_ok t hr (by simp [VRk]) p l hl
end
end DV
end
section
set_option Elab.async false
set_option linter.all false
set_option maxRecDepth 100000
set_option maxHeartbeats 2000000
namespace DV
open PySem L2 PyProof.Rows PySem.Spec LamX SrtO LiI RZ
open PySem.Sem (wp)

/-! ### zip of two iterators, told by what each does -/
def StopAt (h : Heap) (e : Addr) : Prop := ∃ o, h.get? e = some o ∧ o.cls = .type "StopIteration"
section
variable {prog : Program} {w : World} {A : Around} {E : Value → Shared → Prop} {s : Shared} {z TI TO i1 i2 : Addr}
/-- the iterator i gives x, and then stands as P' -/
def Gives (prog : Program) (w : World) (A : Around) (E : Value → Shared → Prop) (i : Addr) (P P' : Heap → Prop) (x : Value) : Prop :=
  ∀ (s : Shared) (Q : Value → Shared → Prop), P s.heap → (∀ h', P' h' → Heap.SameBut i s.heap h' → Q x { s with heap := h' }) → wpAny (model prog w) A (Builtin.SmallTypes.nextOf (.ref i)) Q E s
/-- the iterator i is at its end -/
def Ends' (prog : Program) (w : World) (A : Around) (i : Addr) (P : Heap → Prop) : Prop :=
  ∀ (s : Shared) (E : Value → Shared → Prop) (Q : Value → Shared → Prop), P s.heap → (∀ h' e, Heap.ExtBut i s.heap h' → StopAt h' e → E (.ref e) { s with heap := h' }) → wpAny (model prog w) A (Builtin.SmallTypes.nextOf (.ref i)) Q E s
/-- what P says stays where others change -/
def Stays (bs : List Addr) (P : Heap → Prop) : Prop := ∀ (b : Addr) (h h' : Heap), b ∈ bs → Heap.ExtBut b h h' → P h → P h'
structure ZApart (z TI TO i1 i2 : Addr) : Prop where
  a : TI ≠ z
  b : TO ≠ z
  c : i1 ≠ z
  d : i2 ≠ z
  e : TI ≠ TO
  f : TI ≠ i1
  g : TI ≠ i2
  h : TO ≠ i1
  i : TO ≠ i2
  j : i1 ≠ i2
theorem zipG_item {P1 P1' P2 P2' : Heap → Prop} {x y u v : Value} {Q : Value → Shared → Prop} (D : ZApart z TI TO i1 i2) (hz : IsZip s.heap z TI TO .none) (hTI : IsPair s.heap TI (.ref i1) (.ref i2)) (hTO : IsPair s.heap TO u v)
    (h1 : P1 s.heap) (h2 : P2 s.heap) (g1 : ∀ E, Gives prog w A E i1 P1 P1' x) (g2 : ∀ E, Gives prog w A E i2 P2 P2' y) (t1 : Stays [z] P1) (t1' : Stays [z, TO, i2] P1') (t2 : Stays [z, TO, i1] P2) (t2' : Stays [z, TO] P2')
    (k1 : ∀ h h' : Heap, (∀ c o, c ≠ z → h.get? c = some o → h'.get? c = some o) → P1' h → P1' h') (k2 : ∀ h h' : Heap, (∀ c o, c ≠ z → h.get? c = some o → h'.get? c = some o) → P2' h → P2' h')
    (hQ : ∀ h', IsZip h' z TI TO (rawInt s.heap.objs.size) → IsPair h' TO x y → P1' h' → P2' h' → IsPair h' s.heap.objs.size x y → (∀ c o, c ≠ z → c ≠ TO → c ≠ i1 → c ≠ i2 → s.heap.get? c = some o → h'.get? c = some o) → Q (.ref s.heap.objs.size) { s with heap := h' }) :
    wpAny (model prog w) A (Builtin.«zip.__next__» ⟨[.ref z], []⟩) (fun fin s' => ∃ r, fin = .done (.ret r) ∧ Q r s') E s := by
  show wpAny _ _ (field (.ref z) 2 >>= _) _ _ _
  refine wpAny_bind (wpAny_field hz rfl (x := .bool false) rfl ?_)
  show wpAny _ _ (field (.ref z) 3 >>= _) _ _ _
  refine wpAny_bind (wpAny_field hz rfl (x := .ref TI) rfl (wpAny_bind (wpAny_seqItems hTI rfl ?_)))
  show wpAny _ _ (Builtin.SmallTypes.ownedTupleIsFree (.ref z) >>= _) _ _ _
  unfold Builtin.SmallTypes.ownedTupleIsFree
  refine wpAny_bind (wpAny_bind (wpAny_field hz rfl (x := .none) rfl (wpAny_pure ?_)))
  simp only [if_true]
  refine wpAny_bind (wpAny_rule (wpAny_bind (wpAny_field hz rfl (x := .ref TO) rfl (wpAny_bind (wpAny_setField_rec hz (by simp) fun ha za sa => wpAny_bind ?_)))))
  replace za : IsZip ha z TI TO .ellipsis := za
  simp only [List.zipIdx_cons, List.zipIdx_nil, List.forIn_cons, List.forIn_nil]
  refine wpAny_bind (wpAny_bind (wpAny_onRaise ?_))
  show wpAny _ _ (Builtin.SmallTypes.nextOf (.ref i1) >>= _) _ _ _
  refine wpAny_bind (g1 _ _ _ (t1 z _ _ (by simp) sa.extBut h1) fun hb q1 sb => wpAny_pure ?_)
  have pb : IsPair hb TO u v := sb.extBut _ _ D.h (sa.extBut _ _ D.b hTO)
  refine wpAny_bind (wpAny_seqItems pb rfl (wpAny_bind (wpAny_updateSeq_pair pb fun hc pc sc => ?_)))
  replace pc : IsPair hc TO x v := pc
  refine wpAny_bind (wpAny_letGo (wpAny_pure (wpAny_bind (wpAny_bind (wpAny_onRaise ?_)))))
  show wpAny _ _ (Builtin.SmallTypes.nextOf (.ref i2) >>= _) _ _ _
  refine wpAny_bind (g2 _ _ _ (t2 TO _ _ (by simp) sc.extBut (t2 i1 _ _ (by simp) sb.extBut (t2 z _ _ (by simp) sa.extBut h2))) fun hd q2 sd => wpAny_pure ?_)
  have pd : IsPair hd TO x v := sd.extBut _ _ D.i pc
  refine wpAny_bind (wpAny_seqItems pd rfl (wpAny_bind (wpAny_updateSeq_pair pd fun he pe se => ?_)))
  replace pe : IsPair he TO x y := pe
  refine wpAny_bind (wpAny_letGo (wpAny_pure (wpAny_pure (wpAny_bind (wpAny_seqItems pe rfl (wpAny_bind (wpAny_newTuple ?_)))))))
  have size : he.objs.size = s.heap.objs.size := by rw [se.1, sd.1, sc.1, sb.1, sa.1]
  have ze : IsZip he z TI TO .ellipsis := se.extBut _ _ D.b.symm (sd.extBut _ _ D.d.symm (sc.extBut _ _ D.b.symm (sb.extBut _ _ D.c.symm za)))
  have keep : ∀ c o, c ≠ z → c ≠ TO → c ≠ i1 → c ≠ i2 → s.heap.get? c = some o → he.get? c = some o := fun c o n1 n2 n3 n4 e => se.extBut _ _ n2 (sd.extBut _ _ n4 (sc.extBut _ _ n2 (sb.extBut _ _ n3 (sa.extBut _ _ n1 e))))
  have r1 : P1' he := t1' TO _ _ (by simp) se.extBut (t1' i2 _ _ (by simp) sd.extBut (t1' TO _ _ (by simp) sc.extBut q1))
  have r2 : P2' he := t2' TO _ _ (by simp) se.extBut q2
  have zlt : z < he.objs.size := Heap.lt_size ze
  show wpAny _ _ (Builtin.SmallTypes.ownedTupleHandOut (.ref z) (.ref he.objs.size) >>= _) _ _ _
  unfold Builtin.SmallTypes.ownedTupleHandOut
  have zf : IsZip (he.push { cls := .type "tuple", data := .seq #[x, y] }) z TI TO .ellipsis := Heap.get?_push_of_some _ ze
  refine wpAny_bind (wpAny_bind (wpAny_setField_rec zf (by simp) fun hg zg sg => ?_))
  replace zg : IsZip hg z TI TO (rawInt he.objs.size) := zg
  refine wpAny_setField_rec zg (by simp) fun hh zh sh => ?_
  replace zh : IsZip hh z TI TO (rawInt he.objs.size) := zh
  have up : ∀ c o, c ≠ z → he.get? c = some o → hh.get? c = some o := fun c o n e => sh.extBut _ _ n (sg.extBut _ _ n (Heap.get?_push_of_some _ e))
  have pn : IsPair hh he.objs.size x y := sh.extBut _ _ (Nat.ne_of_gt zlt) (sg.extBut _ _ (Nat.ne_of_gt zlt) (Heap.get?_push_size _ rfl))
  rw [size] at zh pn
  refine wpAny_pure ⟨_, rfl, ?_⟩
  show Q (.ref he.objs.size) _
  rw [size]
  exact hQ hh zh (up _ _ D.b pe) (k1 _ _ up r1) (k2 _ _ up r2) pn fun c o n1 n2 n3 n4 e => up c o n1 (keep c o n1 n2 n3 n4 e)
theorem zipG_end {P1 P1' P2 : Heap → Prop} {x u v : Value} {Q : Fin → Shared → Prop} (D : ZApart z TI TO i1 i2) (hz : IsZip s.heap z TI TO .none) (hTI : IsPair s.heap TI (.ref i1) (.ref i2)) (hTO : IsPair s.heap TO u v)
    (h1 : P1 s.heap) (h2 : P2 s.heap) (t1 : Stays [z] P1) (t2 : Stays [z, TO, i1] P2) (g : Ends' prog w A i1 P1 ∨ ((∀ E, Gives prog w A E i1 P1 P1' x) ∧ Ends' prog w A i2 P2))
    (hE : ∀ h' e, (∀ c o, c ≠ z → c ≠ TO → c ≠ i1 → c ≠ i2 → s.heap.get? c = some o → h'.get? c = some o) → StopAt h' e → E (.ref e) { s with heap := h' }) :
    wpAny (model prog w) A (Builtin.«zip.__next__» ⟨[.ref z], []⟩) Q E s := by
  show wpAny _ _ (field (.ref z) 2 >>= _) _ _ _
  refine wpAny_bind (wpAny_field hz rfl (x := .bool false) rfl ?_)
  show wpAny _ _ (field (.ref z) 3 >>= _) _ _ _
  refine wpAny_bind (wpAny_field hz rfl (x := .ref TI) rfl (wpAny_bind (wpAny_seqItems hTI rfl ?_)))
  show wpAny _ _ (Builtin.SmallTypes.ownedTupleIsFree (.ref z) >>= _) _ _ _
  unfold Builtin.SmallTypes.ownedTupleIsFree
  refine wpAny_bind (wpAny_bind (wpAny_field hz rfl (x := .none) rfl (wpAny_pure ?_)))
  simp only [if_true]
  refine wpAny_bind (wpAny_rule (wpAny_bind (wpAny_field hz rfl (x := .ref TO) rfl (wpAny_bind (wpAny_setField_rec hz (by simp) fun ha za sa => wpAny_bind ?_)))))
  replace za : IsZip ha z TI TO .ellipsis := za
  simp only [List.zipIdx_cons, List.zipIdx_nil, List.forIn_cons, List.forIn_nil]
  refine wpAny_bind (wpAny_bind (wpAny_onRaise ?_))
  show wpAny _ _ (Builtin.SmallTypes.nextOf (.ref i1) >>= _) _ _ _
  have out : ∀ (h' : Heap) (e : Addr), IsZip h' z TI TO .ellipsis → StopAt h' e → e ≠ z := fun h' e q he y => by
    obtain ⟨o, ho, hc⟩ := he
    subst y
    rw [q] at ho
    cases ho
    simp at hc
  rcases g with g | ⟨g1, g2⟩
  · refine wpAny_bind (g _ _ _ (t1 z _ _ (by simp) sa.extBut h1) fun hb e sb he => ?_)
    have zb : IsZip hb z TI TO .ellipsis := sb _ _ D.c.symm za
    have ne := out hb e zb he
    obtain ⟨o, ho, hc⟩ := he
    exact wpAny_setField_rec zb (by simp) fun hc' _ sc => hE hc' e (fun c o n1 _ n3 _ q => sc.extBut _ _ n1 (sb _ _ n3 (sa.extBut _ _ n1 q))) ⟨o, sc.extBut _ _ ne ho, hc⟩
  · refine wpAny_bind (g1 _ _ _ (t1 z _ _ (by simp) sa.extBut h1) fun hb q1 sb => wpAny_pure ?_)
    have pb : IsPair hb TO u v := sb.extBut _ _ D.h (sa.extBut _ _ D.b hTO)
    refine wpAny_bind (wpAny_seqItems pb rfl (wpAny_bind (wpAny_updateSeq_pair pb fun hc pc sc => ?_)))
    refine wpAny_bind (wpAny_letGo (wpAny_pure (wpAny_bind (wpAny_bind (wpAny_onRaise ?_)))))
    show wpAny _ _ (Builtin.SmallTypes.nextOf (.ref i2) >>= _) _ _ _
    refine wpAny_bind (g2 _ _ _ (t2 TO _ _ (by simp) sc.extBut (t2 i1 _ _ (by simp) sb.extBut (t2 z _ _ (by simp) sa.extBut h2))) fun hd e sd he => ?_)
    have zd : IsZip hd z TI TO .ellipsis := sd _ _ D.d.symm (sc.extBut _ _ D.b.symm (sb.extBut _ _ D.c.symm za))
    have ne := out hd e zd he
    obtain ⟨o, ho, hc'⟩ := he
    exact wpAny_setField_rec zd (by simp) fun hf _ sf => hE hf e (fun c o n1 n2 n3 n4 q => sf.extBut _ _ n1 (sd _ _ n4 (sc.extBut _ _ n2 (sb.extBut _ _ n3 (sa.extBut _ _ n1 q))))) ⟨o, sf.extBut _ _ ne ho, hc'⟩
end
end DV
end
section
set_option Elab.async false
set_option linter.all false
set_option maxRecDepth 100000
set_option maxHeartbeats 2000000
namespace DV
open PySem L2 PyProof.Rows PySem.Spec LamX SrtO LiI RZ
open PySem.Sem (wp)

/-! ### zip of a tuple and a list -/
abbrev zMa (h : Heap) (l1 : Addr) : Heap := h.push { cls := .type "tuple_iterator", data := .fields #[.ref l1, .int 0 0] }
abbrev zMb (h : Heap) (l1 l2 : Addr) : Heap := (zMa h l1).push { cls := .type "list_iterator", data := .fields #[.ref l2, .int 0 0] }
abbrev zMc (h : Heap) (l1 l2 : Addr) : Heap := (zMb h l1 l2).push { cls := .type "tuple", data := .seq #[.ref h.objs.size, .ref (zMa h l1).objs.size] }
abbrev zMd (h : Heap) (l1 l2 : Addr) : Heap := (zMc h l1 l2).push { cls := .type "tuple", data := .seq #[.none, .none] }
abbrev zMe (h : Heap) (l1 l2 : Addr) : Heap := (zMd h l1 l2).push { cls := .type "zip", data := .fields #[.none, .bool false, .bool false, .ref (zMb h l1 l2).objs.size, .ref (zMc h l1 l2).objs.size] }
theorem meets_zM (l1 l2 : Addr) (xs ys : Array Value) :
    Meets (Builtin.«zip.__new__» ⟨[.type "zip", .ref l1, .ref l2], []⟩) (fun _ R s => s.heap.IsTuple l1 xs ∧ s.heap.IsList l2 ys ∧ R (.ok (.ret (.ref (zMd s.heap l1 l2).objs.size))) { s with heap := zMe s.heap l1 l2 }) :=
  .of_wp fun prog w A R s h => by
    obtain ⟨hp, g, d, tk, os⟩ := s
    obtain ⟨e1, e2, h⟩ := h
    have hsub := sub_zip
    have hL1 : Heap.IsTuple (Shared.heap ⟨hp, g, d, tk, os⟩) l1 xs := e1
    have hL2 : Heap.IsList (Shared.heap ⟨hp.push { cls := .type "tuple_iterator", data := .fields #[.ref l1, .int 0 0] }, g, d, tk, os⟩) l2 ys := Heap.IsList.push e2 _
    wp_walk using wpAny_pyIter_tuple hL1, wpAny_pyIter_list hL2
    exact ⟨_, rfl, h⟩
section
variable {prog : Program} {w : World} {A : Around} {E : Value → Shared → Prop} {s : Shared}
theorem call_zM {l1 l2 : Addr} {xs ys : Array Value} {Q : Value → Shared → Prop} (e1 : s.heap.IsTuple l1 xs) (e2 : s.heap.IsList l2 ys)
    (h : ∀ h', IsZip h' (s.heap.objs.size + 4) (s.heap.objs.size + 2) (s.heap.objs.size + 3) .none → IsPair h' (s.heap.objs.size + 2) (.ref s.heap.objs.size) (.ref (s.heap.objs.size + 1)) → IsPair h' (s.heap.objs.size + 3) .none .none →
      h'.IsTupleIter s.heap.objs.size l1 0 → h'.IsListIter (s.heap.objs.size + 1) l2 0 → (∀ c o, s.heap.get? c = some o → h'.get? c = some o) → Q (.ref (s.heap.objs.size + 4)) { s with heap := h' }) :
    wpAny (model prog w) A (call (.type "zip") [.ref l1, .ref l2]) Q E s := by
  refine callType_new F.called_zip (by decide) (F.typeCall_zip_2 _ _) (F.newCall_zip_2 _ _) (fun obj => F.args_object_init_3 obj _ _) F.entry_zip_new (meets_zM l1 l2 xs ys) ⟨e1, e2, ?_⟩
  have za : (zMa s.heap l1).objs.size = s.heap.objs.size + 1 := Heap.size_push ..
  have zb : (zMb s.heap l1 l2).objs.size = s.heap.objs.size + 2 := by rw [Heap.size_push, za]
  have zc : (zMc s.heap l1 l2).objs.size = s.heap.objs.size + 3 := by rw [Heap.size_push, zb]
  have zd : (zMd s.heap l1 l2).objs.size = s.heap.objs.size + 4 := by rw [Heap.size_push, zc]
  have up1 : ∀ c o, (zMd s.heap l1 l2).get? c = some o → (zMe s.heap l1 l2).get? c = some o := fun c o e => Heap.get?_push_of_some _ e
  have up2 : ∀ c o, (zMc s.heap l1 l2).get? c = some o → (zMe s.heap l1 l2).get? c = some o := fun c o e => up1 _ _ (Heap.get?_push_of_some _ e)
  have up3 : ∀ c o, (zMb s.heap l1 l2).get? c = some o → (zMe s.heap l1 l2).get? c = some o := fun c o e => up2 _ _ (Heap.get?_push_of_some _ e)
  have up4 : ∀ c o, (zMa s.heap l1).get? c = some o → (zMe s.heap l1 l2).get? c = some o := fun c o e => up3 _ _ (Heap.get?_push_of_some _ e)
  have g5 : (zMe s.heap l1 l2).get? (zMd s.heap l1 l2).objs.size = some _ := Heap.get?_push_size _ rfl
  have g4 : (zMe s.heap l1 l2).get? (zMc s.heap l1 l2).objs.size = some _ := up1 _ _ (Heap.get?_push_size _ rfl)
  have g3 : (zMe s.heap l1 l2).get? (zMb s.heap l1 l2).objs.size = some _ := up2 _ _ (Heap.get?_push_size _ rfl)
  have g2 : (zMe s.heap l1 l2).get? (zMa s.heap l1).objs.size = some _ := up3 _ _ (Heap.get?_push_size _ rfl)
  have g1 : (zMe s.heap l1 l2).get? s.heap.objs.size = some _ := up4 _ _ (Heap.get?_push_size _ rfl)
  show _ ∧ _
  rw [zb, zc, zd] at g5
  rw [za, zb] at g3
  rw [zc] at g4
  rw [za] at g2
  rw [zd]
  exact ⟨⟨_, g5, rfl⟩, h _ g5 g3 g4 ⟨_, g1, rfl, rfl⟩ ⟨_, g2, rfl, rfl⟩ fun c o x => up4 _ _ (Heap.get?_push_of_some _ x)⟩
/-- at its place -/
def PT (l i : Addr) (k : Nat) (xs : Array Value) : Heap → Prop := fun h => h.IsTupleIter i l k ∧ h.IsTuple l xs
def PL (l i : Addr) (k : Nat) (ys : Array Value) : Heap → Prop := fun h => h.IsListIter i l k ∧ h.IsList l ys
theorem stays_PT {l i : Addr} {k : Nat} {xs : Array Value} {bs : List Addr} (hi : i ∉ bs) (hl : l ∉ bs) : Stays bs (PT l i k xs) := fun b h h' hb e p => ⟨p.1.extBut e fun z => hi (by rw [z]; exact hb), p.2.extBut e fun z => hl (by rw [z]; exact hb)⟩
theorem stays_PL {l i : Addr} {k : Nat} {xs : Array Value} {bs : List Addr} (hi : i ∉ bs) (hl : l ∉ bs) : Stays bs (PL l i k xs) := fun b h h' hb e p => ⟨p.1.extBut e fun z => hi (by rw [z]; exact hb), p.2.extBut e fun z => hl (by rw [z]; exact hb)⟩
theorem gives_PT {l i : Addr} {k : Nat} {xs : Array Value} {x : Value} (hli : l ≠ i) (hx : xs[k]? = some x) : Gives prog w A E i (PT l i k xs) (PT l i (k + 1) xs) x := fun s Q p q =>
  nextOf_tuple_item p.1 p.2 hx fun h' a sb => q h' ⟨a, p.2.extBut sb.extBut hli⟩ sb
theorem gives_PL {l i : Addr} {k : Nat} {xs : Array Value} {x : Value} (hli : l ≠ i) (hx : xs[k]? = some x) : Gives prog w A E i (PL l i k xs) (PL l i (k + 1) xs) x := fun s Q p q =>
  wpAny_nextOf_list_item p.1 p.2 hx fun h' a sb => q h' ⟨a, p.2.extBut sb.extBut hli⟩ sb
theorem ends_PT {l i : Addr} {k : Nat} {xs : Array Value} (hh : A.handled = none) (hx : xs[k]? = none) : Ends' prog w A i (PT l i k xs) := fun s E Q p q => nextOf_tuple_end hh p.1 p.2 hx fun h' e a b => q h' e a b
theorem ends_PL {l i : Addr} {k : Nat} {xs : Array Value} (hh : A.handled = none) (hx : xs[k]? = none) : Ends' prog w A i (PL l i k xs) := fun s E Q p q => wpAny_nextOf_list_end hh p.1 p.2 hx fun h' e a b => q h' e a b
end
end DV
end
section
set_option Elab.async false
set_option linter.all false
set_option maxRecDepth 100000
set_option maxHeartbeats 2000000
namespace DV
open PySem L2 PyProof.Rows PySem.Spec LamX SrtO LiI RZ

/-- the tuple at a and the list at b as they stand at each turn, the items in new pairs -/
def ItzM (K : PySem.W.Frag) (a b : Addr) : It :=
  ⟨fun i H => ∃ (xs ys : List V) (x y : V), SqT K H a xs ∧ SqL K H b ys ∧ xs[i]? = some x ∧ ys[i]? = some y,
    fun i H v H' => ∃ T x y, v = .ref T ∧ H T = none ∧ H' = upd H T (.tup [x, y]) ∧ (∀ xs, SqT K H a xs → xs[i]? = some x) ∧ ∀ ys, SqL K H b ys → ys[i]? = some y,
    fun i H => ∃ xs ys : List V, SqT K H a xs ∧ SqL K H b ys ∧ (xs.length ≤ i ∨ ys.length ≤ i)⟩
/-- how a zip of a tuple and a list stands -/
def ZM (z TI TO i1 i2 a b : Addr) (i : Nat) (h : Heap) : Prop := IsZip h z TI TO .none ∧ IsPair h TI (.ref i1) (.ref i2) ∧ (∃ x y, IsPair h TO x y) ∧ h.IsTupleIter i1 a i ∧ h.IsListIter i2 b i
structure ZAt (z TI TO i1 i2 a b : Addr) : Prop where
  ap : ZApart z TI TO i1 i2
  a1 : ∀ c ∈ [z, TI, TO, i1, i2], a ≠ c
  b1 : ∀ c ∈ [z, TI, TO, i1, i2], b ≠ c
section
variable {z TI TO i1 i2 a b : Addr} {X : Cx} {pins : List (Addr × Obj)} {σ : L2.St} {H : Hp} {s : Shared} {i : Nat}
theorem ZM.old {h : Heap} (st : ZM z TI TO i1 i2 a b i h) {c : Addr} (hc : c ∈ [z, TI, TO, i1, i2]) : ∃ o, h.get? c = some o := by
  obtain ⟨hz, hI, ⟨x, y, hO⟩, ⟨o1, e1, _⟩, ⟨o2, e2, _⟩⟩ := st
  have e' : c = z ∨ c = TI ∨ c = TO ∨ c = i1 ∨ c = i2 := by simpa using hc
  rcases e' with q | q | q | q | q <;> subst q
  · exact ⟨_, hz⟩
  · exact ⟨_, hI⟩
  · exact ⟨_, hO⟩
  · exact ⟨_, e1⟩
  · exact ⟨_, e2⟩
theorem turn_zM {P : Program} {w : World} {K : PySem.W.Frag} {elts : List Expr} {kk : Nat} {tpos : Pos} (D : ZAt z TI TO i1 i2 a b) : Turn P w K (.Tuple elts kk tpos) (ItzM K a b) [z, TI, TO, i1, i2] z (ZM z TI TO i1 i2 a b) where
  mem := by simp
  obj := fun i h st c hc => by
    obtain ⟨hz, hI, ⟨x, y, hO⟩, ⟨o1, e1, _, d1⟩, ⟨o2, e2, _, d2⟩⟩ := st
    have e' : c = z ∨ c = TI ∨ c = TO ∨ c = i1 ∨ c = i2 := by simpa using hc
    rcases e' with q | q | q | q | q
    · rw [q]; exact ⟨_, hz, fun v q => nomatch q⟩
    · rw [q]; exact ⟨_, hI, fun v q => nomatch q⟩
    · rw [q]; exact ⟨_, hO, fun v q => nomatch q⟩
    · rw [q]; exact ⟨o1, e1, fun v q => by rw [d1] at q; cases q⟩
    · rw [q]; exact ⟨o2, e2, fun v q => by rw [d2] at q; cases q⟩
  keep := fun i h h' st k => by
    obtain ⟨hz, hI, ⟨x, y, hO⟩, h1, h2⟩ := st
    exact ⟨k z (by simp) _ hz, k TI (by simp) _ hI, ⟨x, y, k TO (by simp) _ hO⟩, h1.at fun o q => k i1 (by simp) o q, h2.at fun o q => k i2 (by simp) o q⟩
  item := by
    intro X hP hw hK hc i pins s σ H E I hf st hg
    subst hP hw hK
    have stAll := st
    obtain ⟨hz, hI, ⟨x0, y0, hO⟩, h1, h2⟩ := st
    obtain ⟨xs, ys, x, y, hqx, hqy, hx, hy⟩ := hg
    obtain ⟨its, rv, p, _⟩ := I.tuple hqx
    obtain ⟨jts, rv2, p2, _⟩ := I.list hqy
    obtain ⟨u, hu, ru⟩ := rv.get hx
    obtain ⟨v, hv, rv'⟩ := rv2.get hy
    have zl : z < s.heap.objs.size := Heap.lt_size hz
    have hT : s.TypeIs (.ref z) "zip" := ⟨_, hz, rfl⟩
    unfold pyNext
    refine wpAny_bind (wpAny_attempt (wpAny_callSpecial?_slot (name := Str.ofString "__next__") hT F.slot_zip_next (wpAny_call_entry F.slot_zip_next hT F.entry_zip_next
      (zipG_item (P1 := PT a i1 i its.toArray) (P1' := PT a i1 (i + 1) its.toArray) (P2 := PL b i2 i jts.toArray) (P2' := PL b i2 (i + 1) jts.toArray) (x := u) (y := v) D.ap hz hI hO ⟨h1, tup_is p⟩ ⟨h2, p2.isList⟩
        (fun E => gives_PT (D.a1 i1 (by simp)) (by simpa using hu)) (fun E => gives_PL (D.b1 i2 (by simp)) (by simpa using hv))
        (stays_PT (by simp; exact D.ap.c) (by simp; exact D.a1 z (by simp))) (stays_PT (by simp; exact ⟨D.ap.c, D.ap.h.symm, D.ap.j⟩) (by simp; exact ⟨D.a1 z (by simp), D.a1 TO (by simp), D.a1 i2 (by simp)⟩))
        (stays_PL (by simp; exact ⟨D.ap.d, D.ap.i.symm, D.ap.j.symm⟩) (by simp; exact ⟨D.b1 z (by simp), D.b1 TO (by simp), D.b1 i1 (by simp)⟩)) (stays_PL (by simp; exact ⟨D.ap.d, D.ap.i.symm⟩) (by simp; exact ⟨D.b1 z (by simp), D.b1 TO (by simp)⟩))
        (fun h h' k q => ⟨q.1.at fun o e => k _ o D.ap.c e, by obtain ⟨o, e1, e2⟩ := q.2; exact ⟨o, k _ o (D.a1 z (by simp)) e1, e2⟩⟩) (fun h h' k q => ⟨q.1.at fun o e => k _ o D.ap.d e, by obtain ⟨o, e1, e2⟩ := q.2; exact ⟨o, k _ o (D.b1 z (by simp)) e1, e2⟩⟩)
        fun h' z' O' q1 q2 T' hk => wpAny_pure ?_) (F.args_zip_next_1 _))))
    refine ⟨_, rfl, wpAny_letOwnedTupleGo_zip (s := { s with heap := h' }) z' fun h'' z'' sb => ?_⟩
    have T2 : h''.get? s.heap.objs.size = some { cls := .type "tuple", data := .seq #[u, v] } := (sb.2 _ (Nat.ne_of_gt zl)).trans T'
    have new : ObjOk X.prog X.w (upd H s.heap.objs.size (.tup [x, y])) h'' s.heap.objs.size (.tup [x, y]) := ⟨by show 2 ≤ sizeLine; decide, [u, v], .cons ru (.cons rv' .nil), ⟨_, T2, rfl, _, rfl⟩⟩
    have old : ∀ c o, c ∉ [z, TI, TO, i1, i2] → s.heap.get? c = some o → h''.get? c = some o := fun c o hb q => (sb.2 c (fun q' => hb (by simp [q']))).trans (hk c o (fun q' => hb (by simp [q'])) (fun q' => hb (by simp [q'])) (fun q' => hb (by simp [q'])) (fun q' => hb (by simp [q'])) q)
    have I1 : Inv X pins σ (upd H s.heap.objs.size (.tup [x, y])) { s with heap := h'' } := I.turnedNew (t' := s.toks) (ch := [z, TI, TO, i1, i2]) old hf (Nat.le_refl _) new
    refine ⟨.ref s.heap.objs.size, _, I1, rfl, ⟨_, x, y, rfl, I.hok.fresh (Nat.le_refl _), rfl, fun l hl => by rw [I.tuple_inj hl hqx]; exact hx, fun l hl => by rw [I.list_inj hl hqy]; exact hy⟩, ⟨z'', ?_, ⟨u, v, ?_⟩, ?_, ?_⟩, fun c hcm => ?_⟩
    · exact (sb.2 _ D.ap.a).trans (hk _ _ D.ap.a D.ap.e D.ap.f D.ap.g hI)
    · exact (sb.2 _ D.ap.b).trans O'
    · exact q1.1.at fun o q => (sb.2 _ D.ap.c).trans q
    · exact q2.1.at fun o q => (sb.2 _ D.ap.d).trans q
    · obtain ⟨o, eo⟩ := stAll.old hcm
      rw [upd_ne (Nat.ne_of_lt (Heap.lt_size eo))]
      exact (hf c hcm).1
  done := by
    intro X hP hw hK hc i pins s σ H E I hf st hg
    subst hP hw hK
    obtain ⟨hz, hI, ⟨x0, y0, hO⟩, h1, h2⟩ := st
    obtain ⟨xs, ys, hqx, hqy, hend⟩ := hg
    obtain ⟨its, rv, p, _⟩ := I.tuple hqx
    obtain ⟨jts, rv2, p2, _⟩ := I.list hqy
    have l1 := rv.length
    have l2 := rv2.length
    have hT : s.TypeIs (.ref z) "zip" := ⟨_, hz, rfl⟩
    have fin : ∀ (g : Ends' X.prog X.w X.A i1 (PT a i1 i its.toArray) ∨ ((∀ E, Gives X.prog X.w X.A E i1 (PT a i1 i its.toArray) (PT a i1 (i + 1) its.toArray) (its.toArray.getD i .none)) ∧ Ends' X.prog X.w X.A i2 (PL b i2 i jts.toArray))), True := fun _ => trivial
    have hh := I.ok.hd hc
    unfold pyNext
    refine wpAny_bind (wpAny_attempt (wpAny_callSpecial?_slot (name := Str.ofString "__next__") hT F.slot_zip_next (wpAny_call_entry F.slot_zip_next hT F.entry_zip_next
      (zipG_end (P1 := PT a i1 i its.toArray) (P1' := PT a i1 (i + 1) its.toArray) (P2 := PL b i2 i jts.toArray) (x := its.toArray.getD i .none) D.ap hz hI hO ⟨h1, tup_is p⟩ ⟨h2, p2.isList⟩
        (stays_PT (by simp; exact D.ap.c) (by simp; exact D.a1 z (by simp))) (stays_PL (by simp; exact ⟨D.ap.d, D.ap.i.symm, D.ap.j.symm⟩) (by simp; exact ⟨D.b1 z (by simp), D.b1 TO (by simp), D.b1 i1 (by simp)⟩)) ?_
        fun h' e hk he => ?_) (F.args_zip_next_1 _))))
    · cases hx : its.toArray[i]? with
      | none => exact .inl (ends_PT hh hx)
      | some x =>
        have hy : jts.toArray[i]? = none := by
          rcases hend with q | q
          · have : its.toArray[i]? = none := by simp; omega
            rw [this] at hx; cases hx
          · simp; omega
        refine .inr ⟨fun E => gives_PT (D.a1 i1 (by simp)) ?_, ends_PL hh hy⟩
        rw [hx]
        simp only [Array.getD_eq_getD_getElem?, hx, Option.getD_some]
    · obtain ⟨o, ho, hc'⟩ := he
      refine wpAny_bind (wpAny_isInstance (T := "StopIteration") (b := true) ⟨o, ho, hc'⟩ isSubtype_stop ?_)
      exact wpAny_pure ⟨rfl, I.turnedL (t' := s.toks) (ch := [z, TI, TO, i1, i2]) (fun c o hb q => hk c o (fun q' => hb (by simp [q'])) (fun q' => hb (by simp [q'])) (fun q' => hb (by simp [q'])) (fun q' => hb (by simp [q'])) q) hf⟩
  self := fun A i s Q E st h => wpAny_pyIter_zip st.1 h
end
end DV
end
section
set_option Elab.async false
set_option linter.all false
set_option maxRecDepth 100000
set_option maxHeartbeats 2000000
namespace DV
open PySem L2 PyProof.Rows PySem.Spec LamX SrtO LiI RZ

section
variable {X : Cx} {g : DV.G} {W : WX} {F : Kn} {ι : List Addr} {h : AH} {H : Hp} {e e2 : Expr} {r : MA} {p pos tpos : Pos} {elts : List Expr} {kk : Nat}
theorem zapart (n : Nat) : ZApart (n + 4) (n + 2) (n + 3) n (n + 1) := by
  constructor <;> (intro h; have h : (_ : Nat) = _ := h; omega)
theorem zabove {n a : Nat} (h : a < n) : ∀ c ∈ [n + 4, n + 2, n + 3, n, n + 1], a ≠ c := by
  intro c hc
  have e' : c = n + 4 ∨ c = n + 2 ∨ c = n + 3 ∨ c = n ∨ c = n + 1 := by simpa using hc
  omega
theorem zge {n : Nat} : ∀ c ∈ [n + 4, n + 2, n + 3, n, n + 1], n ≤ c := by
  intro c hc
  have e' : c = n + 4 ∨ c = n + 2 ∨ c = n + 3 ∨ c = n ∨ c = n + 1 := by simpa using hc
  omega
def iZipM (K : PySem.W.Frag) (ta : TA) : TI := fun σ H R => ta σ H fun vs H1 => ∃ a b xs ys, vs = [.ref a, .ref b] ∧ SqT K H1 a xs ∧ SqL K H1 b ys ∧ R (ItzM K a b) H1
theorem pi_zipM {ta : TA} (hg : Gl X "zip") (hm : X.mg "zip" = none) (ha : PA X [e, e2] ta) (hs : starEach [e, e2] X.env = (false, eval e X.env) :: starEach [e2] X.env := by rfl) (hpl : (backTo pos (starEach [e2] X.env)).any (·.1) = false := by rfl) :
    PI X (.Tuple elts kk tpos) (.Call (.Name "zip" p) [e, e2] [] pos) (iZipM X.K ta) := by
  refine ⟨fun pins s σ H R I h => ?_⟩
  refine Call_ (ld_blt I hg hm PyProof.Rows.boot_zip (PyProof.Rows.callWith_type1 (thn (ha.run pos pins s σ H _ I h) fun us s1 ⟨vs, H1, I1, r1, q1⟩ => ?_) hs hpl))
  obtain ⟨a, b, xs, ys, ex, hqx, hqy, q⟩ := q1
  subst ex
  cases r1 with
  | cons r rr =>
  cases rr with
  | cons r' rr =>
  cases rr
  cases r
  cases r'
  obtain ⟨its, rv, p1, _⟩ := I1.tuple hqx
  obtain ⟨jts, rv2, p2, _⟩ := I1.list hqy
  have la : a < s1.heap.objs.size := by obtain ⟨o, ho, _⟩ := p1; exact Heap.lt_size ho
  have lb : b < s1.heap.objs.size := p2.lt
  have D : ZAt (s1.heap.objs.size + 4) (s1.heap.objs.size + 2) (s1.heap.objs.size + 3) s1.heap.objs.size (s1.heap.objs.size + 1) a b :=
    ⟨zapart _, zabove la, zabove lb⟩
  refine call_zM (tup_is p1) p2.isList fun h' hz hI hO h1 h2 hk => wpAny_pyIter_zip hz ?_
  have I2 : Inv X pins σ H1 { s1 with heap := h' } := I1.kept (t' := s1.toks) hk
  exact ⟨s1.heap.objs.size + 4, [s1.heap.objs.size + 4, s1.heap.objs.size + 2, s1.heap.objs.size + 3, s1.heap.objs.size, s1.heap.objs.size + 1], _, _, H1, rfl, I2, turn_zM D, ⟨hz, hI, ⟨_, _, hO⟩, h1, h2⟩, fun c hcm => I1.fpOk (zge c hcm) (I1.hok.fresh (zge c hcm)), q⟩
theorem jr_zM (t : TiOk g) {xs : List D} {d' : D} {a b : Addr} (rv : VR g F ι (.tup xs) (.ref a)) (rv' : VR g F ι d' (.ref b)) (hd' : ∀ h, getS h d' = getL h d') : JR g F ι (itZp (.tup xs) d') (ItzM g.K a b) := by
  intro F' ι' i h H l hr
  unfold itZp
  rw [hd']
  show match (match some xs, getL h d' with | some xs, some ys => (match xs[i]?, ys[i]? with | some x, some y => Stp.go (.tup [x, y]) | _, _ => .stop) | _, _ => .bad) with | .stop => _ | .go d => _ | .bad => True
  cases e' : getL h d' with
  | none => trivial
  | some ys =>
    obtain ⟨c, vs, z, hs, q2⟩ := tup_ok hr (VR.monoF l _ _ rv)
    cases z
    obtain ⟨c, ws, z, hs', q2'⟩ := getL_ok hr e' (VR.monoF l _ _ rv')
    cases z
    dsimp only
    cases f : xs[i]? with
    | none => exact ⟨vs, ws, hs, hs', .inl (by rw [q2.length]; exact List.getElem?_eq_none_iff.mp f)⟩
    | some x =>
      cases f' : ys[i]? with
      | none => exact ⟨vs, ws, hs, hs', .inr (by rw [q2'.length]; exact List.getElem?_eq_none_iff.mp f')⟩
      | some y =>
        obtain ⟨v, z1, z2⟩ := q2.get f
        obtain ⟨w, z3, z4⟩ := q2'.get f'
        refine ⟨⟨vs, ws, v, w, hs, hs', z1, z3⟩, fun x H' hy => ?_⟩
        obtain ⟨T, v', w', rfl, hT, rfl, hv, hw⟩ := hy
        have z := hv vs hs
        rw [z1] at z
        cases z
        have z := hw ws hs'
        rw [z3] at z
        cases z
        exact new_pair t hr hT z2 z4
theorem PI_or {tg it : Expr} {t1 t2 : TI} (a : PI X tg it t1) (b : PI X tg it t2) : PI X tg it fun σ H R => t1 σ H R ∨ t2 σ H R :=
  ⟨fun pins s σ H R I h => h.elim (a.run pins s σ H R I) (b.run pins s σ H R I)⟩
/-- two lists, two tuples, or a tuple and a list -/
def zpIt2 (d e : D) (h : AH) : Rv IT := match d, e with
  | .tup xs, .tup ys => .ok (itZp (.tup xs) (.tup ys)) h
  | .tup xs, e => match getL h e with | some _ => .ok (itZp (.tup xs) e) h | none => .stuck
  | d, e => zpIt d e h
def zA (f : D → D → AH → Rv IT) (zs : List D) (h : AH) : Rv IT := match zs with | [x, y] => f x y h | _ => .stuck
def miZip2 (r : MA) : MI := fun σ h => bindR (r σ h) (zA zpIt2)
theorem im_zip2 (t : TiOk g) (hK : X.K = g.K) (hg : Gl X "zip") (hm : X.mg "zip" = none) (ha : PA X [e, e2] (tA g W r)) (hs : starEach [e, e2] X.env = (false, eval e X.env) :: starEach [e2] X.env := by rfl) (hpl : (backTo pos (starEach [e2] X.env)).any (·.1) = false := by rfl) :
    PI X (.Tuple elts kk tpos) (.Call (.Name "zip" p) [e, e2] [] pos) (tI g W (miZip2 r)) := by
  refine PI_weak (PI_or (im_zip t hK hg hm ha hs hpl) (pi_zipM hg hm ha hs hpl)) ?_
  rintro σv H R ⟨F, ι, σ, h, hr, lr, p⟩
  unfold miZip2 at p
  have left : (∀ zs h1, r σ h = .ok zs h1 → zA zpIt2 zs h1 = zA zpIt zs h1) → tI g W (miZip r) σv H R := fun hz => by
    refine ⟨F, ι, σ, h, hr, lr, ?_⟩
    show Post g W F ι σv (JR g) (bindR (r σ h) (zA zpIt)) R
    revert p hz
    cases r σ h with
    | exc c h1 => exact fun p _ => p
    | stuck => exact fun p _ => p
    | ok zs h1 =>
      intro p hz
      have p : Post g W F ι σv (JR g) (zA zpIt2 zs h1) R := p
      rw [hz zs h1 rfl] at p
      exact p
  cases hres : r σ h with
  | exc c h1 => exact .inl (left fun zs h1 e => by rw [hres] at e; cases e)
  | stuck => exact .inl (left fun zs h1 e => by rw [hres] at e; cases e)
  | ok zs h1 =>
    have other : zA zpIt2 zs h1 = zA zpIt zs h1 → tI g W (miZip r) σv H R := fun hz => left fun zs' h1' e => by
      rw [hres] at e
      cases e
      exact hz
    have mixed : ∀ (xs : List D) (y : D), zs = [.tup xs, y] → (∀ h, getS h y = getL h y) → zpIt2 (.tup xs) y h1 = (match getL h1 y with | some _ => Rv.ok (itZp (.tup xs) y) h1 | none => .stuck) → iZipM X.K (tA g W r) σv H R := fun xs y ez hy hz => by
      subst ez
      refine ⟨F, ι, σ, h, hr, lr, ?_⟩
      rw [hres] at p ⊢
      have p : Post g W F ι σv (JR g) (zpIt2 (.tup xs) y h1) R := p
      rw [hz] at p
      intro F1 ι1 H1 vs l hr1 r1
      obtain ⟨v, u, rfl, rx, ry⟩ := two2 r1
      split at p
      · rename_i ys e1
        obtain ⟨a, vs, rfl, q1, q2⟩ := tup_ok hr1 rx
        obtain ⟨b, ws, rfl, q3, q4⟩ := getL_ok hr1 e1 ry
        rw [hK]
        exact ⟨a, b, vs, ws, rfl, q1, q3, p F1 ι1 H1 _ l hr1 (jr_zM t rx ry hy)⟩
      · exact p.elim
    match zs, hres, other, mixed with
    | [], _, other, _ => exact .inl (other rfl)
    | [_], _, other, _ => exact .inl (other rfl)
    | _ :: _ :: _ :: _, _, other, _ => exact .inl (other rfl)
    | [x, y], _, other, mixed =>
      cases x with
      | tup xs =>
        cases y with
        | tup ys => exact .inl (other rfl)
        | _ => exact .inr (mixed xs _ rfl (fun _ => rfl) rfl)
      | _ => exact .inl (other rfl)
end
end DV
end
section
set_option Elab.async false
set_option linter.all false
set_option maxRecDepth 100000
set_option maxHeartbeats 2000000
namespace DV
open PySem L2 PyProof.Rows PySem.Spec LamX SrtO LiI RZ

/-! ### in, not in, of a list or of a tuple of flat things -/
def flatD : D → Option V
  | .non => some .non
  | .bl b => some (.bl b)
  | .int i => some (.int i)
  | .str x => some (.str x)
  | _ => none
section
variable {X : Cx} {g : DV.G} {W : WX} {F : Kn} {ι : List Addr} {h : AH} {H : Hp}
theorem flatD_ok {d : D} {v u : V} (e : flatD d = some v) (r : VR g F ι d u) : u = v ∧ flatV v = true := by
  cases d with
  | non => cases e; exact ⟨r.non', rfl⟩
  | bl b => cases e; exact ⟨r.bl', rfl⟩
  | int i => cases e; exact ⟨r.int', rfl⟩
  | str x => cases e; exact ⟨r.str', rfl⟩
  | _ => cases e
theorem flatDs_ok : ∀ {ds : List D} {vs us : List V}, allS (ds.map flatD) = some vs → VRs g F ι ds us → us = vs ∧ vs.all flatV = true
  | [], vs, us, e, r => by cases e; simp only [VRs] at r; exact ⟨r, rfl⟩
  | d :: ds, vs, us, e, r => by
    simp only [VRs] at r
    obtain ⟨u, ws, rfl, r0, r⟩ := r
    obtain ⟨y, ys, e1, e2, rfl⟩ := allS_cons e
    obtain ⟨rfl, f1⟩ := flatD_ok e1 r0
    obtain ⟨rfl, f2⟩ := flatDs_ok e2 r
    exact ⟨rfl, by simp [f1, f2]⟩
def dIn2 (neg : Bool) (a b : D) (h : AH) : Rv D := match dInB a b h with
  | some k => .ok (.bl (if neg then !k else k)) h
  | none => match b, flatD a with
    | .tup ds, some x => match allS (ds.map flatD) with
      | some vs => .ok (.bl (if neg then !inV x vs else inV x vs)) h
      | none => .stuck
    | _, _ => .stuck
theorem ok_in2 : OpOk g (fun x y H Q => rInD g.K x y H Q ∨ rIn g.K false x y H Q) (dIn2 false) := by
  intro W F ι h H σv a b v u Q hr ra rb p
  unfold dIn2 at p
  split at p
  · rename_i k e
    refine .inl (ok_in W F ι h H σv a b v u Q hr ra rb ?_)
    unfold dIn
    rw [e]
    exact p
  · split at p
    · rename_i ds x e1 e0
      split at p
      · rename_i vs e2
        obtain ⟨a, ws, rfl, t1, t2⟩ := tup_ok hr rb
        obtain ⟨rfl, f1⟩ := flatD_ok e1 ra
        obtain ⟨rfl, f2⟩ := flatDs_ok e2 t2
        exact .inr ⟨a, ws, rfl, .inr t1, f1, f2, finb p hr⟩
      · exact p.elim
    · exact p.elim
theorem ok_notIn2 : OpOk g (fun x y H Q => rNotInD g.K x y H Q ∨ rIn g.K true x y H Q) (dIn2 true) := by
  intro W F ι h H σv a b v u Q hr ra rb p
  unfold dIn2 at p
  split at p
  · rename_i k e
    refine .inl (ok_notIn W F ι h H σv a b v u Q hr ra rb ?_)
    unfold dNotIn
    rw [e]
    exact p
  · split at p
    · rename_i ds x e1 e0
      split at p
      · rename_i vs e2
        obtain ⟨a, ws, rfl, t1, t2⟩ := tup_ok hr rb
        obtain ⟨rfl, f1⟩ := flatD_ok e1 ra
        obtain ⟨rfl, f2⟩ := flatDs_ok e2 t2
        exact .inr ⟨a, ws, rfl, .inr t1, f1, f2, finb p hr⟩
      · exact p.elim
    · exact p.elim
theorem op_in2 (hK : X.K = g.K) (hu : X.A.units + 65 < cLine) : OpR X (compareOp .In) (fun x y H Q => rInD g.K x y H Q ∨ rIn g.K false x y H Q) := by
  rw [← hK]
  exact (op_inD hu).or op_in_seq
theorem op_notIn2 (hK : X.K = g.K) (hu : X.A.units + 65 < cLine) : OpR X (compareOp .NotIn) (fun x y H Q => rNotInD g.K x y H Q ∨ rIn g.K true x y H Q) := by
  rw [← hK]
  exact (op_notInD hu).or op_notIn_seq
end
end DV
end
section
set_option Elab.async false
set_option linter.all false
set_option maxRecDepth 100000
set_option maxHeartbeats 2000000
namespace DV
open PySem L2 PyProof.Rows PySem.Spec LamX SrtO LiI RZ

section
variable {X : Cx} {g : DV.G} {W : WX} {F : Kn} {ι : List Addr} {h : AH} {H : Hp} {σv : L2.St} {Q : VK} {m mo mk mx : ME} {r : MA} {e o k x : Expr} {es : List Expr} {pos apos cpos p : Pos}
/-! ### slices with a step, of lists -/
def pickG {α : Type} (xs : List α) (lo hi : Option Int) (c : Int) : List α := (sliceRange (sliceBounds lo hi (some c) xs.length).1 (sliceBounds lo hi (some c) xs.length).2.1 (sliceBounds lo hi (some c) xs.length).2.2).filterMap (xs[·]?)
theorem VRs.pickN {ds : List D} {vs : List V} (r : VRs g F ι ds vs) : ∀ is : List Nat, VRs g F ι (is.filterMap (ds[·]?)) (is.filterMap (vs[·]?))
  | [] => by simp [VRs]
  | i :: is => by
    have ih := VRs.pickN r is
    cases e : ds[i]? with
    | none =>
      have : vs[i]? = none := List.getElem?_eq_none (by rw [r.length]; exact List.getElem?_eq_none_iff.mp e)
      rw [List.filterMap_cons_none e, List.filterMap_cons_none this]
      exact ih
    | some d =>
      obtain ⟨v, e2, rv⟩ := r.get e
      rw [List.filterMap_cons_some e, List.filterMap_cons_some e2]
      simp only [VRs]
      exact ⟨v, _, rfl, rv, ih⟩
theorem pickV_rel {vs : List V} {us : List Value} (r : Vals vs us) : ∀ is : List Nat, Vals (is.filterMap (vs[·]?)) (is.filterMap (us[·]?))
  | [] => .nil
  | i :: is => by
    have ih := pickV_rel r is
    cases e : vs[i]? with
    | none =>
      have : us[i]? = none := List.getElem?_eq_none (by rw [← r.length]; exact List.getElem?_eq_none_iff.mp e)
      rw [List.filterMap_cons_none e, List.filterMap_cons_none this]
      exact ih
    | some d =>
      obtain ⟨v, e2, rv⟩ := r.get e
      rw [List.filterMap_cons_some e, List.filterMap_cons_some e2]
      exact .cons rv ih
theorem pickG_le {α : Type} (xs : List α) (lo hi : Option Int) (c : Int) : (pickG xs lo hi c).length ≤ xs.length := by
  have := slicePick_size_le (xs.map fun _ => Value.none).toArray lo hi (some c)
  have e0 : (xs.map fun _ => Value.none).toArray.size = xs.length := by simp
  rw [e0] at this
  refine Nat.le_trans (Nat.le_of_eq ?_) this
  unfold slicePick pickG
  rw [e0, List.size_toArray]
  generalize sliceRange _ _ _ = is
  induction is with
  | nil => rfl
  | cons i is ih =>
    cases e : xs[i]? with
    | none => rw [List.filterMap_cons_none e, List.filterMap_cons_none (by simp [e])]; exact ih
    | some d => rw [List.filterMap_cons_some e, List.filterMap_cons_some (b := Value.none) (by simp [e])]; simp [ih]
def tSlS (K : PySem.W.Frag) (c : Int) (te : TE) (tl th : TO) : TE := fun σ H Q => te σ H fun x H1 => tl σ H1 fun l H2 => th σ H2 fun u H3 => ∃ a xs, x = .ref a ∧ SqL K H3 a xs ∧ ∀ p, H3 p = none → Q (.ref p) (upd H3 p (.lst (pickG xs l u c)))
theorem pe_sliceS {te : TE} {tl th : TO} {lo hi : Option Expr} {c : Int} {kk : Nat} {p1 p2 : Pos} (h0 : c ≠ 0) (he : PE X e te) (hl : PO X lo tl) (hu : PO X hi th) : PE X (.Subscript e (.Slice lo hi (some (.Constant (.int c) kk p1)) p2) pos) (tSlS X.K c te tl th) := by
  refine ⟨fun pins s σ H Q I h => ?_⟩
  refine Subscript_ (thn (he.run pins s σ H _ I h) fun v s1 ⟨x, H1, I1, r1, q1⟩ => ?_)
  refine wpAny_Slice (thn (hl.run pins s1 σ H1 _ I1 q1) fun vl s2 ⟨l, H2, I2, pl, q2⟩ => thn (hu.run pins s2 σ H2 _ I2 q2) fun vu s3 ⟨u, H3, I3, pu, q3⟩ => ?_)
  obtain ⟨a, xs, ex, hx, q⟩ := q3
  subst ex
  cases r1
  have hst : PO X (some (.Constant (.int c) kk p1)) (tPart (tC (.int c))) := po_some pe_int
  refine thn (hst.run pins s3 σ H3 (fun o H4 => o = some c ∧ H4 = H3) I3 ⟨c, rfl, rfl, rfl⟩) fun vs s4 ⟨o, H4, I4, ps, eo, e4⟩ => ?_
  subst eo e4
  have I5 : L2.Inv X pins σ H4 { s4 with heap := s4.heap.push { cls := .type "slice", data := .fields #[vl, vu, vs] } } := I4.kept (t' := s4.toks) fun b ob q => Heap.get?_push_of_some _ q
  obtain ⟨its, r, ht, hz⟩ := I5.list hx
  have hlen := r.length
  show wpAny (model X.prog X.w) X.A (subscriptTail e (.Slice lo hi (some (.Constant (.int c) kk p1)) p2) (.ref a) (.ref s4.heap.objs.size)) (EP X pins σ Q) X.xe { s4 with heap := s4.heap.push { cls := .type "slice", data := .fields #[vl, vu, vs] } }
  refine tail_any (ops := [.ref a, .ref s4.heap.objs.size]) ht.isList.typeIs (PySem.slot_list_getitem.lookup) ?_ (by with_unfolding_all rfl)
  refine wpAny_getItem_list_slice ht.isList (Heap.IsSliceOf.new _ vl vu vs) pl pu ps (by simpa using h0) ?_ (by rw [List.size_toArray]; omega)
  have e5 : slicePick its.toArray l u (some c) = (pickG its l u c).toArray := by
    unfold slicePick pickG
    simp
  rw [e5]
  have rr : Vals (pickG xs l u c) (pickG its l u c) := by
    unfold pickG
    rw [hlen]
    exact pickV_rel r _
  refine ⟨.ref _, _, I5.laid (t' := s4.toks) (o := .lst (pickG xs l u c)) (fun b ob q => Heap.get?_push_of_some _ q) (Nat.le_refl _) ?_, rfl, q _ (I5.hok.fresh (Nat.le_refl _))⟩
  exact ⟨Nat.le_trans (pickG_le xs l u c) hz, _, 0, rr, Heap.get?_push_size _ rfl⟩
def slS (mu : Bool) (x : D) (lo hi : Option Int) (c : Int) (h : AH) : Rv D := match getL h x with | some xs => mkL mu (pickG xs lo hi c) h | none => .stuck
def mSlS (mu : Bool) (c : Int) (m : ME) (ml mh : MO) : ME := fun σ h => bindR (m σ h) fun x h1 => bindR (ml σ h1) fun lo h2 => bindR (mh σ h2) fun hi h3 => slS mu x lo hi c h3
theorem em_slS (t : TiOk g) (mu : Bool) (hK : X.K = g.K) {lo hi : Option Expr} {ml mh : MO} {c : Int} {kk : Nat} {p1 p2 : Pos} (h0 : c ≠ 0) (he : PE X e (tE g W m)) (hl : PO X lo (tO g W ml)) (hu : PO X hi (tO g W mh)) : PE X (.Subscript e (.Slice lo hi (some (.Constant (.int c) kk p1)) p2) pos) (tE g W (mSlS mu c m ml mh)) := by
  refine PE_weak (pe_sliceS h0 he hl hu) ?_
  rintro σv H Q ⟨F, ι, σ, h, hr, lr, p⟩
  refine tM_bind (f := fun σ x h1 => bindR (ml σ h1) fun lo h2 => bindR (mh σ h2) fun hi h3 => slS mu x lo hi c h3) hr lr p fun F1 ι1 H1 x h1 v l hr1 lr1 r1 p1 => ?_
  refine tM_bind (f := fun σ lo h2 => bindR (mh σ h2) fun hi h3 => slS mu x lo hi c h3) hr1 lr1 p1 fun F2 ι2 H2 lo h2 lo' l2 hr2 lr2 r2 p2 => ?_
  refine tM_bind (f := fun σ hi h3 => slS mu x lo hi c h3) hr2 lr2 p2 fun F3 ι3 H3 hi h3 hi' l3 hr3 lr3 r3 p3 => ?_
  subst r2 r3
  have r1' := VR.mono (l2.trans l3) _ _ r1
  rw [hK]
  unfold slS at p3
  split at p3
  · rename_i xs e1
    obtain ⟨a, vs, rfl, q1, q2⟩ := getL_ok hr3 e1 r1'
    refine ⟨a, vs, rfl, q1, mkL_ok t hr3 ?_ p3⟩
    unfold pickG
    rw [q2.length]
    exact q2.pickN _
  · exact p3.elim
/-! ### min of three -/
def bMin3 (ds : List D) (h : AH) : Rv D := match ds with
  | [.int i, .int j, .int k] => .ok (.int (if k < (if j < i then j else i) then k else if j < i then j else i)) h
  | _ => .stuck
theorem k_min3 : CallOk g (rNuC3 nuMin3) bMin3 := by
  intro W F ι h H σv ds vs Q hr rv p
  unfold bMin3 at p
  split at p
  · rename_i i j k
    simp only [VRs] at rv
    obtain ⟨v1, _, rfl, r1, v2, _, rfl, r2, v3, _, rfl, r3, rfl⟩ := rv
    cases r1.int'; cases r2.int'; cases r3.int'
    refine ⟨_, _, _, _, rfl, ?_, fini p hr⟩
    have two : ∀ a b : Int, nuMin2 (.int a) (.int b) = some (.int (if b < a then b else a)) := fun a b => by
      simp only [nuMin2, nuLt, nuCB]
      by_cases q : b < a <;> simp [q]
    unfold nuMin3
    rw [two, Option.bind_some, two]
  · exact p.elim
/-! ### str of an int, of a text -/
def bStr (ds : List D) (h : AH) : Rv D := match ds with
  | [.int i] => okIf (i.natAbs.log2 < 1920) (.ok (.str (toString i)) h)
  | [.str x] => .ok (.str x) h
  | _ => .stuck
theorem call_str : CallR X (.type "str") (fun xs H Q => (∃ i, xs = [.int i] ∧ i.natAbs.log2 < 1920 ∧ Q (.str (toString i)) H) ∨ ∃ a, xs = [.str a] ∧ Q (.str a) H) := call_str_int.or SkE.call_str_str
theorem k_str : CallOk g (fun xs H Q => (∃ i, xs = [.int i] ∧ i.natAbs.log2 < 1920 ∧ Q (.str (toString i)) H) ∨ ∃ a, xs = [.str a] ∧ Q (.str a) H) bStr := by
  intro W F ι h H σv ds vs Q hr rv p
  unfold bStr at p
  split at p
  · obtain ⟨v, rfl, r⟩ := one1 rv
    cases r.int'
    obtain ⟨hz, p⟩ := okIf_post p
    exact .inl ⟨_, rfl, hz, fins p hr⟩
  · obtain ⟨v, rfl, r⟩ := one1 rv
    cases r.str'
    exact .inr ⟨_, rfl, fins p hr⟩
  · exact p.elim
/-! ### d.get(k, x) -/
def mGet2 (mo mk mx : ME) : ME := fun σ h => bindR (mo σ h) fun d h1 => match getK h1 d with
  | some _ => bindR (mk σ h1) fun y h2 => bindR (mx σ h2) fun z h3 => match lookD d y h3 with | some o => .ok (o.getD z) h3 | none => .stuck
  | none => .stuck
theorem m2_of {m : Str} {f : Expr} (hbase : attributeBase o m X.env (eval o X.env) = eval o X.env) (hfew : ((backTo cpos (starEach [e, f] X.env)).all (fun x => !x.1) && (backToKw cpos (keywordEach [] X.env)).all (fun x => x.1.isSome)
      && decide (([e, f] : List Expr).length + ([] : List Keyword).length + (if ([] : List Keyword).isEmpty then 0 else 1) < 30)) = true) (hline : (apos.endLine == cpos.line) = true) (ht : backTo cpos (starEach [e, f] X.env) = [(false, eval e X.env), (false, eval f X.env)]) : M2 X o m apos e f cpos := ⟨hbase, hfew, hline, ht⟩
theorem em_get2 {f : Expr} (hu : X.A.units + 1 < cLine) (ho : PE X o (tE g W mo)) (he : PE X e (tE g W mk)) (hf : PE X f (tE g W mx)) (hbase : attributeBase o "get" X.env (eval o X.env) = eval o X.env := by rfl)
    (hfew : ((backTo cpos (starEach [e, f] X.env)).all (fun x => !x.1) && (backToKw cpos (keywordEach [] X.env)).all (fun x => x.1.isSome)
      && decide (([e, f] : List Expr).length + ([] : List Keyword).length + (if ([] : List Keyword).isEmpty then 0 else 1) < 30)) = true := by rfl)
    (hline : (apos.endLine == cpos.line) = true := by rfl) (ht : backTo cpos (starEach [e, f] X.env) = [(false, eval e X.env), (false, eval f X.env)] := by rfl) :
    PE X (.Call (.Attribute o "get" apos) [e, f] [] cpos) (tE g W (mGet2 mo mk mx)) := by
  refine PE_weak (pe_dget2 hu ho he hf ⟨hbase, hfew, hline, ht⟩) ?_
  rintro σv H Q ⟨F, ι, σ, h, hr, lr, p⟩
  refine tM_bind (f := fun σ d h1 => match getK h1 d with
    | some _ => bindR (mk σ h1) fun y h2 => bindR (mx σ h2) fun z h3 => match lookD d y h3 with | some o => .ok (o.getD z) h3 | none => .stuck
    | none => .stuck) hr lr p fun F1 ι1 H1 d h1 v l hr1 lr1 r1 p1 => ?_
  split at p1
  · rename_i ks e1
    obtain ⟨a, ws, rfl, q1, q2⟩ := getK_ok hr1 e1 r1
    refine ⟨a, rfl, .inl ⟨ws, q1⟩, ?_⟩
    refine tM_bind (f := fun σ y h2 => bindR (mx σ h2) fun z h3 => match lookD d y h3 with | some o => .ok (o.getD z) h3 | none => .stuck) hr1 lr1 p1 fun F2 ι2 H2 y h2 u l2 hr2 lr2 r2 p2 => ?_
    refine tM_bind (f := fun σ z h3 => match lookD d y h3 with | some o => .ok (o.getD z) h3 | none => .stuck) hr2 lr2 p2 fun F3 ι3 H3 z h3 w l3 hr3 lr3 r3 p3 => ?_
    split at p3
    · rename_i o e2
      obtain ⟨b, eb, ov, z1, z2⟩ := lookD_ok hr3 e2 (VR.mono (l2.trans l3) _ _ r1) (VR.mono l3 _ _ r2)
      cases eb
      refine ⟨ov, z1, ?_⟩
      cases o with
      | none =>
        have z2 : ov = none := z2
        subst z2
        exact fin p3 hr3 r3
      | some d' =>
        obtain ⟨y', rfl, ry⟩ := z2
        exact fin p3 hr3 ry
    · exact p3.elim
  · exact p1.elim
/-! ### f'..' -/
inductive PJM (X : Cx) (g : DV.G) (W : WX) : List Expr → List ME → Prop where
  | nil : PJM X g W [] []
  | cons {e : Expr} {m : ME} {es : List Expr} {ms : List ME} (h : PE X e (tE g W m)) (r : PJM X g W es ms) : PJM X g W (e :: es) (m :: ms)
theorem PJM.pj {es : List Expr} {ms : List ME} (h : PJM X g W es ms) : PJ X es (ms.map (tE g W)) := by
  induction h with
  | nil => exact .nil
  | cons h r ih => exact .cons h ih
def mJs : List ME → Str → AS → AH → Rv Str
  | [], acc, _, h => .ok acc h
  | m :: ms, acc, σ, h => bindR (m σ h) fun x h1 => match x with | .str y => if (acc ++ y).length ≤ sizeLine then mJs ms (acc ++ y) σ h1 else .stuck | _ => .stuck
def mFS (ms : List ME) : ME := fun σ h => bindR (mJs ms Str.empty σ h) fun y h1 => .ok (.str y) h1
def fmtD (x : D) (h : AH) : Rv D := match x with
  | .str y => okIf (y.length ≤ sizeLine) (.ok (.str y) h)
  | .int i => okIf (i.natAbs.log2 < 1920) (.ok (.str (toString i)) h)
  | _ => .stuck
def mFmt (m : ME) : ME := fun σ h => bindR (m σ h) fmtD
theorem em_fmt (he : PE X e (tE g W m)) : PE X (.FormattedValue e (-1) none pos) (tE g W (mFmt m)) := by
  refine PE_weak (pe_fmt he) ?_
  rintro σv H Q ⟨F, ι, σ, h, hr, lr, p⟩
  refine tM_bind (f := fun _ => fmtD) hr lr p fun F1 ι1 H1 x h1 v l hr1 lr1 r1 p1 => ?_
  unfold fmtD at p1
  split at p1
  · cases r1.str'
    obtain ⟨hz, p1⟩ := okIf_post p1
    exact .inl ⟨_, rfl, hz, fins p1 hr1⟩
  · cases r1.int'
    obtain ⟨hz, p1⟩ := okIf_post p1
    exact .inr ⟨_, rfl, hz, fins p1 hr1⟩
  · exact p1.elim
theorem js_weak : ∀ (ms : List ME) (acc : Str) (F : Kn) (ι : List Addr) (σ : AS) (h : AH) (H : Hp), HR g F ι h H → LR g F ι σ σv → Post g W F ι σv (VR g) (bindR (mJs ms acc σ h) fun y h1 => Rv.ok (D.str y) h1) Q → tJs (ms.map (tE g W)) acc σv H fun out H1 => Q (.str out) H1
  | [], acc, F, ι, σ, h, H, hr, lr, p => fins p hr
  | m :: ms, acc, F, ι, σ, h, H, hr, lr, p => by
    show tE g W m σv H _
    have p : Post g W F ι σv (VR g) (bindR (m σ h) fun x h1 => match x with
      | .str y => if (acc ++ y).length ≤ sizeLine then bindR (mJs ms (acc ++ y) σ h1) (fun y h1 => Rv.ok (D.str y) h1) else .stuck
      | _ => .stuck) Q := by
      have e : (bindR (mJs (m :: ms) acc σ h) fun y h1 => Rv.ok (D.str y) h1) = (bindR (m σ h) fun x h1 => match x with
        | .str y => if (acc ++ y).length ≤ sizeLine then bindR (mJs ms (acc ++ y) σ h1) (fun y h1 => Rv.ok (D.str y) h1) else .stuck
        | _ => .stuck) := by
        rw [mJs, bindR_assoc]
        congr 1
        funext x h1
        cases x with
        | str y => dsimp only; split <;> rfl
        | _ => rfl
      rw [← e]
      exact p
    refine tM_bind (f := fun σ x h1 => match x with
      | .str y => if (acc ++ y).length ≤ sizeLine then bindR (mJs ms (acc ++ y) σ h1) (fun y h1 => Rv.ok (D.str y) h1) else .stuck
      | _ => .stuck) hr lr p fun F1 ι1 H1 x h1 v l hr1 lr1 r1 p1 => ?_
    split at p1
    · cases r1.str'
      split at p1
      · rename_i hz
        exact ⟨_, rfl, hz, js_weak ms _ F1 ι1 σ h1 H1 hr1 lr1 p1⟩
      · exact p1.elim
    · exact p1.elim
theorem em_fs {v1 v2 : Expr} {rest : List Expr} {ms : List ME} (h : PJM X g W (v1 :: v2 :: rest) ms) : PE X (.JoinedStr (v1 :: v2 :: rest) pos) (tE g W (mFS ms)) := by
  refine PE_weak (pe_joined h.pj) ?_
  rintro σv H Q ⟨F, ι, σ, h, hr, lr, p⟩
  exact js_weak ms _ F ι σ h H hr lr p
theorem em_fs1 (he : PE X e (tE g W m)) : PE X (.JoinedStr [e] pos) (tE g W m) := pe_joined1 he
end
end DV
end
section
set_option Elab.async false
set_option linter.all false
set_option maxRecDepth 100000
set_option maxHeartbeats 2000000
namespace DV
open PySem L2 PyProof.Rows PySem.Spec LamX SrtO LiI RZ

section
variable {X : Cx} {g : DV.G} {W : WX} {F : Kn} {ι : List Addr} {h : AH} {H : Hp} {σv : L2.St} {Q : VK} {m mo mk mx : ME} {r : MA} {e o k x : Expr} {es : List Expr} {pos apos cpos p : Pos} {tg : Expr}
/-! ### xs.index(y), flat items -/
def fIdx (y : V) : List V → Option Nat
  | [] => none
  | z :: zs => if eqV z y = true then some 0 else (fIdx y zs).map (· + 1)
theorem fIdx_ok {y : V} : ∀ {zs : List V} {j : Nat}, fIdx y zs = some j → ∃ z, zs[j]? = some z ∧ eqV z y = true ∧ ∀ (m : Nat) (z' : V), m < j → zs[m]? = some z' → eqV z' y = false
  | [], j, h => by cases h
  | z :: zs, j, h => by
    unfold fIdx at h
    by_cases q : eqV z y = true
    · rw [if_pos q] at h
      cases h
      exact ⟨z, rfl, q, fun m z' hm => absurd hm (Nat.not_lt_zero _)⟩
    · rw [if_neg q] at h
      cases q2 : fIdx y zs with
      | none => rw [q2] at h; cases h
      | some i =>
        rw [q2] at h
        cases h
        obtain ⟨w, h1, h2, h3⟩ := fIdx_ok q2
        refine ⟨w, h1, h2, fun m z' hm hz => ?_⟩
        cases m with
        | zero => simp at hz; subst hz; simpa using q
        | succ m => exact h3 m z' (Nat.lt_of_succ_lt_succ hm) (by simpa using hz)
def mtIndex (x : D) (ds : List D) (h : AH) : Rv D := match getL h x, ds with
  | some xs, [d] => match flatD d, allS (xs.map flatD) with
    | some y, some ys => match fIdx y ys with | some j => .ok (.int (j : Nat)) h | none => .stuck
    | _, _ => .stuck
  | _, _ => .stuck
theorem k_index : MetOk g (rIndex g.K) mtIndex := by
  intro W F ι h H σv x ds u vs Q hr rx rv p
  unfold mtIndex at p
  split at p
  · rename_i xs d e1
    obtain ⟨a, ws, rfl, q1, q2⟩ := getL_ok hr e1 rx
    obtain ⟨v, rfl, r1⟩ := one1 rv
    split at p
    · rename_i y ys e2 e3
      obtain ⟨rfl, f1⟩ := flatD_ok e2 r1
      obtain ⟨rfl, f2⟩ := flatDs_ok e3 q2
      split at p
      · rename_i j e4
        obtain ⟨z, h1, h2, h3⟩ := fIdx_ok e4
        exact ⟨a, ws, v, j, z, rfl, rfl, q1, f1, f2, h1, h2, h3, fini p hr⟩
      · exact p.elim
    · exact p.elim
  · exact p.elim
theorem em_index (hK : X.K = g.K) {cpos : Pos} (ho : PE X o (tE g W mo)) (ha : PA X [e] (tA g W r)) (hbase : attributeBase o "index" X.env (eval o X.env) = eval o X.env := by rfl)
    (hfew : ((backTo cpos (starEach [e] X.env)).all (fun x => !x.1) && (backToKw cpos (keywordEach [] X.env)).all (fun x => x.1.isSome)
      && decide ([e].length + ([] : List Keyword).length + (if ([] : List Keyword).isEmpty then 0 else 1) < 30)) = true := by rfl)
    (hline : (apos.endLine == cpos.line) = true := by rfl) (hs : starEach [e] X.env = (false, eval e X.env) :: starEach [] X.env := by rfl) (hplain : (backTo cpos (starEach [] X.env)).any (·.1) = false := by rfl) :
    PE X (.Call (.Attribute o "index" apos) [e] [] cpos) (tE g W (mBM isLst mtIndex mo r)) :=
  em_bm hK PySem.F.plainAttrs_list PySem.F.slot_list_index PySem.F.type_list_index mt_index (by rw [hK]; exact k_index) ty_list ho ha hbase hfew hline hs hplain
/-! ### sep.join(xs) -/
def joinD (a : Str) (x : D) (h : AH) : Rv D := match getS h x with
  | some xs => match strsD xs with
    | some ys => if (ys.map (·.length)).sum + ys.length * a.length ≤ 16777216 then .ok (.str (Txt.join a ys)) h else .stuck
    | none => .stuck
  | none => .stuck
def mJoin (mo m : ME) : ME := fun σ h => bindR (mo σ h) fun s h1 => match s with | .str a => bindR (m σ h1) fun x h2 => joinD a x h2 | _ => .stuck
theorem em_join (hK : X.K = g.K) (ho : PE X o (tE g W mo)) (he : PE X e (tE g W m)) (hs : starEach [e] X.env = [(false, eval e X.env)] := by rfl) (hbase : attributeBase o "join" X.env (eval o X.env) = eval o X.env := by rfl) (hline : (apos.endLine == pos.line) = true := by rfl) :
    PE X (.Call (.Attribute o "join" apos) [e] [] pos) (tE g W (mJoin mo m)) := by
  refine PE_weak (pe_join ho he hs hbase hline) ?_
  rintro σv H Q ⟨F, ι, σ, h, hr, lr, p⟩
  refine tM_bind (f := fun σ s h1 => match s with | .str a => bindR (m σ h1) fun x h2 => joinD a x h2 | _ => .stuck) hr lr p fun F1 ι1 H1 s h1 v l hr1 lr1 r1 p1 => ?_
  split at p1
  · rename_i a
    cases r1.str'
    refine ⟨⟨_, rfl⟩, tM_bind (f := fun σ x h2 => joinD a x h2) hr1 lr1 p1 fun F2 ι2 H2 x h2 w l2 hr2 lr2 r2 p2 => ?_⟩
    unfold joinD at p2
    split at p2
    · rename_i xs e1
      split at p2
      · rename_i ys e2
        split at p2
        · rename_i hz
          obtain ⟨b, ws, rfl, q1, q2⟩ := getS_ok hr2 e1 r2
          rw [strsD_eq e2] at q2
          have := VRs.strs' q2
          subst this
          refine ⟨a, b, ys, rfl, rfl, by rw [hK]; exact q1, hz, fins p2 hr2⟩
        · exact p2.elim
      · exact p2.elim
    · exact p2.elim
  · exact p1.elim
/-! ### range(a, b, c) -/
instance (i j c : Int) (n : Nat) : Decidable (RgC i j c n) := by unfold RgC; exact inferInstance
def rg3D (ds : List D) (h : AH) : Rv IT := match ds with
  | [.int i, .int j, .int c] => if RgC i j c (Builtin.Range.rangeSize i j c).toNat then .ok (itRg i c (Builtin.Range.rangeSize i j c).toNat) h else .stuck
  | _ => .stuck
theorem im_rg3 {a1 a2 a3 : Expr} (hg : Gl X "range") (hm : X.mg "range" = none) (ha : PA X [a1, a2, a3] (tA g W r)) (hs : starEach [a1, a2, a3] X.env = (false, eval a1 X.env) :: starEach [a2, a3] X.env := by rfl) (hpl : (backTo pos (starEach [a2, a3] X.env)).any (·.1) = false := by rfl) :
    PI X tg (.Call (.Name "range" p) [a1, a2, a3] [] pos) (tI g W (miCall rg3D r)) := by
  refine PI_weak (pi_range3 hg hm ha hs hpl) ?_
  rintro σv H R ⟨F, ι, σ, h, hr, lr, p⟩
  refine tM_bind (f := fun _ => rg3D) hr lr p fun F1 ι1 H1 x h1 v l hr1 lr1 r1 p1 => ?_
  unfold rg3D at p1
  split at p1
  · rename_i i j c
    split at p1
    · rename_i hj
      simp only [VRs] at r1
      obtain ⟨v1, _, rfl, q1, v2, _, rfl, q2, v3, _, rfl, q3, rfl⟩ := r1
      exact ⟨i, j, c, _, by rw [q1.int', q2.int', q3.int'], hj, p1 F1 ι1 H1 _ .refl hr1 jr_rgc⟩
    · exact p1.elim
  · exact p1.elim
end
end DV
end
section
set_option Elab.async false
set_option linter.all false
namespace DV
open PySem

/-! ### the plain side: loops over what stands still, as folds -/
def ItIs (it : IT) (ds : List D) : Prop := ∀ (i : Nat) (h : AH), it i h = match ds[i]? with | some d => .go d | none => .stop
theorem itIs_seq (ds : List D) : ItIs (itSeq ds) ds := fun _ _ => rfl
theorem itIs_tup (ds : List D) : ItIs (itTup (.tup ds)) ds := fun _ _ => rfl
theorem itIs_lst (ds : List D) : ItIs (itOf (.lst ds)) ds := fun _ _ => rfl
def rgD (lo c : Int) (n : Nat) : List D := (List.range n).map fun (i : Nat) => D.int (lo + (i : Int) * c)
theorem itIs_rg (lo c : Int) (n : Nat) : ItIs (itRg lo c n) (rgD lo c n) := fun i h => by
  unfold itRg rgD
  rw [List.getElem?_map]
  by_cases hi : i < n
  · rw [if_pos hi, List.getElem?_range hi]; rfl
  · rw [if_neg hi, List.getElem?_eq_none (by simpa using hi)]; rfl
def enD : Nat → List D → List D
  | _, [] => []
  | i, d :: ds => .tup [.int i, d] :: enD (i + 1) ds
theorem enD_get : ∀ (ds : List D) (k i : Nat), (enD k ds)[i]? = (ds[i]?).map fun d => .tup [.int ((k + i : Nat) : Int), d]
  | [], k, i => by simp [enD]
  | d :: ds, k, 0 => by simp [enD]
  | d :: ds, k, i + 1 => by
    simp only [enD, List.getElem?_cons_succ]
    rw [enD_get ds (k + 1) i]
    congr 1
    funext d
    congr 4
    omega
theorem itIs_en {d : D} {ds : List D} (e : ∀ h, getS h d = some ds) : ItIs (itEn d) (enD 0 ds) := fun i h => by
  unfold itEn
  rw [e h, enD_get]
  dsimp only
  cases ds[i]? with
  | none => rfl
  | some x => simp
theorem zipD_get : ∀ (xs ys : List D) (i : Nat), (zipD xs ys)[i]? = match xs[i]?, ys[i]? with | some x, some y => some (.tup [x, y]) | _, _ => none
  | [], ys, i => by simp [zipD]
  | x :: xs, [], i => by
    simp only [zipD, List.getElem?_nil]
    cases (x :: xs)[i]? <;> rfl
  | x :: xs, y :: ys, 0 => by simp [zipD]
  | x :: xs, y :: ys, i + 1 => by
    simp only [zipD, List.getElem?_cons_succ]
    exact zipD_get xs ys i
theorem itIs_zp {d e : D} {xs ys : List D} (h1 : ∀ h, getS h d = some xs) (h2 : ∀ h, getS h e = some ys) : ItIs (itZp d e) (zipD xs ys) := fun i h => by
  unfold itZp
  rw [h1 h, h2 h, zipD_get]
  dsimp only
  cases xs[i]? <;> cases ys[i]? <;> rfl
def forL (mg : MG) (s : MS) : List D → AS → AH → Rs
  | [], σ, h => .ok (.nx σ) h
  | d :: ds, σ, h => match mg d σ h with
    | .ok σ1 h1 => loopS (s σ1 h1) (forL mg s ds)
    | _ => .stuck
theorem forN_eq {it : IT} {ds : List D} (hi : ItIs it ds) {mg : MG} {s : MS} : ∀ (n i : Nat) (σ : AS) (h : AH), ds.length - i < n → forN it mg s n i σ h = forL mg s (ds.drop i) σ h
  | 0, i, σ, h, hl => by omega
  | n + 1, i, σ, h, hl => by
    unfold forN
    rw [hi i h]
    by_cases hlt : i < ds.length
    · rw [List.getElem?_eq_getElem hlt, List.drop_eq_getElem_cons hlt]
      dsimp only
      unfold forL
      cases mg ds[i] σ h with
      | ok σ1 h1 =>
        dsimp only
        congr 1
        funext σ2 h2
        exact forN_eq hi n (i + 1) σ2 h2 (by omega)
      | _ => rfl
    · rw [List.getElem?_eq_none (by omega), List.drop_eq_nil_of_le (by omega)]
      rfl
def compL (mg : MG) (mt : MT) (me : ME) : List D → AS → List D → AH → Rv (List D)
  | [], _, acc, h => .ok acc h
  | d :: ds, σ, acc, h => match mg d σ h with
    | .ok σ1 h1 => bindR (noX (mt σ1 h1)) fun k h2 => if k = true then bindR (noX (me σ1 h2)) fun y h3 => if acc.length < sizeLine then compL mg mt me ds σ (acc ++ [y]) h3 else .stuck
        else compL mg mt me ds σ acc h2
    | _ => .stuck
theorem compN_eq {it : IT} {ds : List D} (hi : ItIs it ds) {mg : MG} {mt : MT} {me : ME} : ∀ (n i : Nat) (σ : AS) (acc : List D) (h : AH), ds.length - i < n → compN it mg mt me n i σ acc h = compL mg mt me (ds.drop i) σ acc h
  | 0, i, σ, acc, h, hl => by omega
  | n + 1, i, σ, acc, h, hl => by
    unfold compN
    rw [hi i h]
    by_cases hlt : i < ds.length
    · rw [List.getElem?_eq_getElem hlt, List.drop_eq_getElem_cons hlt]
      dsimp only
      unfold compL
      cases mg ds[i] σ h with
      | ok σ1 h1 =>
        dsimp only
        congr 1
        funext k h2
        split
        · congr 1
          funext y h3
          split
          · exact compN_eq hi n (i + 1) σ _ h3 (by omega)
          · rfl
        · exact compN_eq hi n (i + 1) σ _ h2 (by omega)
      | _ => rfl
    · rw [List.getElem?_eq_none (by omega), List.drop_eq_nil_of_le (by omega)]
      rfl
def gxL {S : Type} (mg : MG) (mt : MT) (me : ME) (tk : S → D → Option (S × Bool)) : List D → AS → S → AH → Rv S
  | [], _, st, h => .ok st h
  | d :: ds, σ, st, h => match mg d σ h with
    | .ok σ1 h1 => bindR (noX (mt σ1 h1)) fun k h2 => if k = true then bindR (noX (me σ1 h2)) fun y h3 => match tk st y with
        | none => .stuck
        | some (st', true) => gxL mg mt me tk ds σ st' h3
        | some (st', false) => .ok st' h3
        else gxL mg mt me tk ds σ st h2
    | _ => .stuck
theorem gxN_eq {S : Type} {it : IT} {ds : List D} (hi : ItIs it ds) {mg : MG} {mt : MT} {me : ME} {tk : S → D → Option (S × Bool)} : ∀ (n i : Nat) (σ : AS) (st : S) (h : AH), ds.length - i < n → gxN it mg mt me tk n i σ st h = gxL mg mt me tk (ds.drop i) σ st h
  | 0, i, σ, st, h, hl => by omega
  | n + 1, i, σ, st, h, hl => by
    unfold gxN
    rw [hi i h]
    by_cases hlt : i < ds.length
    · rw [List.getElem?_eq_getElem hlt, List.drop_eq_getElem_cons hlt]
      dsimp only
      unfold gxL
      cases mg ds[i] σ h with
      | ok σ1 h1 =>
        dsimp only
        congr 1
        funext k h2
        split
        · congr 1
          funext y h3
          cases tk st y with
          | none => rfl
          | some p =>
            obtain ⟨st', b⟩ := p
            cases b with
            | true => exact gxN_eq hi n (i + 1) σ _ h3 (by omega)
            | false => rfl
        · exact gxN_eq hi n (i + 1) σ _ h2 (by omega)
      | _ => rfl
    · rw [List.getElem?_eq_none (by omega), List.drop_eq_nil_of_le (by omega)]
      rfl
end DV
end
section
set_option Elab.async false
set_option linter.all false
set_option maxRecDepth 100000
namespace DV
open PySem L2
theorem getS_ref {h : AH} {n : Nat} {ds : List D} (e : h[n]? = some (some (.lst ds))) : getS h (.ref n) = some ds := by
  simp only [getS, getL, e]
theorem dEq_int (a b : Int) (h : AH) : dEq (.int a) (.int b) h = .ok (.bl (decide (a = b))) h := by
  by_cases q : a = b <;> simp [dEq, dEqB, toP, PyData.eqv, q]
theorem dNe_int (a b : Int) (h : AH) : dNe (.int a) (.int b) h = .ok (.bl (!decide (a = b))) h := by
  by_cases q : a = b <;> simp [dNe, dEqB, toP, PyData.eqv, q]
theorem dGt_int (a b : Int) (h : AH) : dGt (.int a) (.int b) h = .ok (.bl (decide (b < a))) h := by simp [dGt, dInt, okIf]
theorem dLt_int (a b : Int) (h : AH) : dLt (.int a) (.int b) h = .ok (.bl (decide (a < b))) h := by simp [dLt, dInt, okIf]
theorem dLe_int (a b : Int) (h : AH) : dLe (.int a) (.int b) h = .ok (.bl (decide (a ≤ b))) h := by simp [dLe, dInt, okIf]
theorem dGe_int (a b : Int) (h : AH) : dGe (.int a) (.int b) h = .ok (.bl (decide (b ≤ a))) h := by simp [dGe, dInt, okIf]
theorem dMinus_int (a b : Int) (h : AH) : dMinus (.int a) (.int b) h = .ok (.int (a - b)) h := by simp [dMinus, dInt, okIf]
theorem dPlus_int (mu : Bool) (a b : Int) (h : AH) : dPlus mu (.int a) (.int b) h = .ok (.int (a + b)) h := by simp [dPlus]
theorem dMod_int {a b : Int} (q : 0 < b) (h : AH) : dMod (.int a) (.int b) h = .ok (.int (a % b)) h := by simp [dMod, dInt, q, okIf]
theorem dDiv_int {a b : Int} (q : 0 < b) (q2 : b < 1073741824) (h : AH) : dDiv (.int a) (.int b) h = .ok (.int (a / b)) h := by simp [dDiv, dInt, CDiv, q, q2, okIf]
theorem dMul_int {mu : Bool} {a b : Int} (q : CMul a b) (h : AH) : dMul mu (.int a) (.int b) h = .ok (.int (a * b)) h := by simp [dMul, q, okIf]
theorem mLc_eq {mu : Bool} {mi : MI} {vs : List Nat} {mg : MG} {mt : MT} {me : ME} {σ : AS} {h h1 : AH} {it : IT} {ds : List D} (hi : mi σ h = .ok it h1) (is : ItIs it ds) (hl : ds.length < bigN) : mLc mu mi vs mg mt me σ h = bindR (compL mg mt me ds (wipeA σ vs) [] h1) (mkL mu) := by
  unfold mLc
  rw [hi]
  show bindR (compN it mg mt me bigN 0 (wipeA σ vs) [] h1) (mkL mu) = _
  rw [compN_eq is bigN 0 _ _ _ (by omega), List.drop_zero]
theorem sFor_eq {mi : MI} {mg : MG} {s : MS} {σ : AS} {h h1 : AH} {it : IT} {ds : List D} (hi : mi σ h = .ok it h1) (is : ItIs it ds) (hl : ds.length < bigN) : sFor mi mg s σ h = forL mg s ds σ h1 := by
  unfold sFor
  rw [hi]
  show forN it mg s bigN 0 σ h1 = _
  rw [forN_eq is bigN 0 _ _ (by omega), List.drop_zero]
theorem mGx_eq {S : Type} {mi : MI} {vs : List Nat} {mg : MG} {mt : MT} {me : ME} {tk : S → D → Option (S × Bool)} {st : S} {fk : S → AH → Rv D} {σ : AS} {h h1 : AH} {it : IT} {ds : List D} (hi : mi σ h = .ok it h1) (is : ItIs it ds) (hl : ds.length < sizeLine) :
    mGx mi vs mg mt me tk st fk σ h = bindR (gxL mg mt me tk ds (wipeA σ vs) st h1) fk := by
  unfold mGx
  rw [hi]
  show bindR (gxN it mg mt me tk sizeLine 0 (wipeA σ vs) st h1) fk = _
  rw [gxN_eq is sizeLine 0 _ _ _ (by omega), List.drop_zero]
end DV
end
section
set_option Elab.async false
set_option linter.all false
set_option maxRecDepth 100000
namespace DV
open PySem L2
/-! ### the plain side: one step of each form, for simp -/
theorem bindR_cg {α β : Type} {r r' : Rv α} {f : α → AH → Rv β} (e : r = r') : bindR r f = bindR r' f := by rw [e]
theorem ofE_cg {α : Type} {σ : AS} {r r' : Rv α} {f : α → AH → Rs} (e : r = r') : ofE σ r f = ofE σ r' f := by rw [e]
theorem seqS_cg {r r' : Rs} {f : AS → AH → Rs} (e : r = r') : seqS r f = seqS r' f := by rw [e]
theorem loopS_cg {r r' : Rs} {f : AS → AH → Rs} (e : r = r') : loopS r f = loopS r' f := by rw [e]
@[simp] theorem bindR_okS {α β : Type} {a : α} {h : AH} {f : α → AH → Rv β} : bindR (.ok a h) f = f a h := rfl
@[simp] theorem bindR_excS {α β : Type} {c : Nat} {h : AH} {f : α → AH → Rv β} : bindR (.exc c h) f = .exc c h := rfl
@[simp] theorem ofE_ok {α : Type} {σ : AS} {a : α} {h : AH} {f : α → AH → Rs} : ofE σ (.ok a h) f = f a h := rfl
@[simp] theorem ofE_exc {α : Type} {σ : AS} {c : Nat} {h : AH} {f : α → AH → Rs} : ofE σ (.exc c h) f = .exc c σ h := rfl
@[simp] theorem seqS_nx {σ : AS} {h : AH} {f : AS → AH → Rs} : seqS (.ok (.nx σ) h) f = f σ h := rfl
@[simp] theorem seqS_rt {d : D} {h : AH} {f : AS → AH → Rs} : seqS (.ok (.rt d) h) f = .ok (.rt d) h := rfl
@[simp] theorem seqS_exc {σ : AS} {h : AH} {c : Nat} {f : AS → AH → Rs} : seqS (.exc c σ h) f = .exc c σ h := rfl
@[simp] theorem loopS_nx {σ : AS} {h : AH} {f : AS → AH → Rs} : loopS (.ok (.nx σ) h) f = f σ h := rfl
@[simp] theorem loopS_ct {σ : AS} {h : AH} {f : AS → AH → Rs} : loopS (.ok (.ct σ) h) f = f σ h := rfl
@[simp] theorem loopS_bk {σ : AS} {h : AH} {f : AS → AH → Rs} : loopS (.ok (.bk σ) h) f = .ok (.nx σ) h := rfl
@[simp] theorem loopS_rt {d : D} {h : AH} {f : AS → AH → Rs} : loopS (.ok (.rt d) h) f = .ok (.rt d) h := rfl
@[simp] theorem loopS_exc {σ : AS} {h : AH} {c : Nat} {f : AS → AH → Rs} : loopS (.exc c σ h) f = .exc c σ h := rfl
variable {σ : AS} {h : AH} {ma mb mc m mo mi me : ME} {t t1 t2 : MT} {s s1 s2 : MS} {r : MA} {Fm : FM} {f f' : D → D → AH → Rv D} {mu : Bool}
@[simp] theorem sSeq_d : sSeq s1 s2 σ h = seqS (s1 σ h) s2 := rfl
@[simp] theorem sIf_d : sIf t s1 s2 σ h = ofE σ (t σ h) fun k h1 => if k = true then s1 σ h1 else s2 σ h1 := rfl
@[simp] theorem sAsg_d {mg : MG} : sAsg m mg σ h = ofE σ (m σ h) fun d h1 => ofG (mg d σ h1) := rfl
@[simp] theorem sRet_d : sRet m σ h = ofE σ (m σ h) fun d h1 => .ok (.rt d) h1 := rfl
@[simp] theorem sNext_d : sNext σ h = .ok (.nx σ) h := rfl
@[simp] theorem sRaise_d {c : Nat} : sRaise c σ h = .exc c σ h := rfl
@[simp] theorem sPar_d {is : List Nat} : sPar is r σ h = ofE σ (r σ h) (parS is σ) := rfl
@[simp] theorem sExpr_d : sExpr m σ h = ofE σ (m σ h) fun _ h1 => .ok (.nx σ) h1 := rfl
@[simp] theorem sAug_d {i : Nat} : sAug f i m σ h = match σ[i]? with | some (some x) => ofE σ (m σ h) (augS f i x σ) | _ => .stuck := rfl
@[simp] theorem augS_d {i : Nat} {x y : D} : augS f i x σ y h = ofE σ (f x y h) fun z h2 => .ok (.nx (σ.set i (some z))) h2 := rfl
@[simp] theorem sFldP_d {cs : List Nat} {fn : Str} : sFldP cs fn mo m σ h = ofE σ (m σ h) (fldS cs fn mo σ) := rfl
@[simp] theorem fldS_d {cs : List Nat} {fn : Str} {d : D} : fldS cs fn mo σ d h = ofE σ (mo σ h) fun x h2 => match putI cs fn x d h2 with | some h3 => .ok (.nx σ) h3 | none => .stuck := rfl
@[simp] theorem ofG_ok {σ1 : AS} : ofG (.ok σ1 h) = .ok (.nx σ1) h := rfl
@[simp] theorem gmName_d {i : Nat} {d : D} : gmName i d σ h = .ok (σ.set i (some d)) h := rfl
@[simp] theorem gmTup_d {n : Nat} {rg : MGs} {ds : List D} : gmTup n rg (.tup ds) σ h = if ds.length = n then rg ds σ h else .stuck := rfl
@[simp] theorem gmNil_d : gmNil [] σ h = .ok σ h := rfl
@[simp] theorem gmCons_d {mg : MG} {rg : MGs} {d : D} {ds : List D} : gmCons mg rg (d :: ds) σ h = match mg d σ h with | .ok σ1 h1 => rg ds σ1 h1 | _ => .stuck := rfl
@[simp] theorem mVar_d {i : Nat} : mVar i σ h = match σ[i]? with | some (some d) => .ok d h | _ => .stuck := rfl
@[simp] theorem mC_d {d : D} : mC d σ h = .ok d h := rfl
@[simp] theorem mOp_d : mOp f ma mb σ h = bindR (ma σ h) fun x h1 => bindR (mb σ h1) fun y h2 => f x y h2 := rfl
@[simp] theorem mTB_d : mTB m σ h = bindR (m σ h) asB := rfl
@[simp] theorem asB_d {b : Bool} : asB (.bl b) h = .ok b h := rfl
@[simp] theorem mTru_d : mTru m σ h = bindR (m σ h) truD := rfl
@[simp] theorem truD_b {b : Bool} : truD (.bl b) h = .ok b h := rfl
@[simp] theorem mAnd_d : mAnd t1 t2 σ h = bindR (t1 σ h) fun k h1 => if k = true then t2 σ h1 else .ok false h1 := rfl
@[simp] theorem mOr_d : mOr t1 t2 σ h = bindR (t1 σ h) fun k h1 => if k = true then .ok true h1 else t2 σ h1 := rfl
@[simp] theorem mNot_d : mNot t σ h = bindR (t σ h) fun k h1 => .ok (!k) h1 := rfl
@[simp] theorem mNotV_d : mNotV m σ h = bindR (m σ h) fun x h1 => bindR (truD x h1) fun k h2 => .ok (.bl (!k)) h2 := rfl
@[simp] theorem mIf_d : mIf t ma mb σ h = bindR (t σ h) fun k h1 => if k = true then ma σ h1 else mb σ h1 := rfl
@[simp] theorem mNeg_d : mNeg m σ h = bindR (m σ h) fun x h1 => match x with | .int i => .ok (.int (-i)) h1 | _ => .stuck := rfl
@[simp] theorem mNil_d : mNil σ h = .ok [] h := rfl
@[simp] theorem mCons_d : mCons m r σ h = bindR (m σ h) fun x h1 => bindR (r σ h1) fun xs h2 => .ok (x :: xs) h2 := rfl
@[simp] theorem mTup_d : mTup r σ h = bindR (r σ h) fun xs h1 => okIf (xs.length ≤ sizeLine) (.ok (.tup xs) h1) := rfl
@[simp] theorem mLst_d : mLst mu r σ h = bindR (r σ h) fun xs h1 => okIf (xs.length ≤ sizeLine) (mkL mu xs h1) := rfl
@[simp] theorem mFld_d {cs : List Nat} {fn : Str} : mFld cs fn m σ h = bindR (m σ h) (fldD cs fn) := rfl
@[simp] theorem mCall_d : mCall Fm r σ h = bindR (r σ h) Fm := rfl
@[simp] theorem mCB_d {fb : List D → AH → Rv D} : mCB fb r σ h = bindR (r σ h) fb := rfl
@[simp] theorem mMeth_d {c : Nat} {mn : Str} : mMeth c mn Fm mo r σ h = bindR (mo σ h) fun x h1 => if rcvD c mn x h1 = true then bindR (r σ h1) fun xs h2 => Fm (x :: xs) h2 else .stuck := rfl
@[simp] theorem mMake_d {c : Nat} : mMake c Fm r σ h = bindR (r σ h) (initD c Fm) := rfl
@[simp] theorem mFrz_d : mFrz m σ h = bindR (m σ h) frzD := rfl
@[simp] theorem mChain_d : mChain f f' ma mb mc σ h = bindR (ma σ h) fun x h1 => bindR (mb σ h1) fun y h2 => bindR (f x y h2) fun z h3 => bindR (asB z h3) fun k h4 => if k = true then bindR (mc σ h4) fun w h5 => f' y w h5 else .ok (.bl false) h4 := rfl
@[simp] theorem mYes_d : mYes σ h = .ok true h := rfl
@[simp] theorem mPN_d : mPN σ h = .ok none h := rfl
@[simp] theorem mPS_d : mPS m σ h = bindR (m σ h) fun x h1 => match x with | .int i => .ok (some i) h1 | _ => .stuck := rfl
@[simp] theorem mSl_d {ml mh : MO} : mSl mu m ml mh σ h = bindR (m σ h) fun x h1 => bindR (ml σ h1) fun lo h2 => bindR (mh σ h2) fun hi h3 => slD mu x lo hi h3 := rfl
@[simp] theorem miLT_d : miLT m σ h = bindR (m σ h) itLT := rfl
@[simp] theorem miEnum_d : miEnum r σ h = bindR (r σ h) fun xs h1 => match xs with | [x] => enIt x h1 | _ => .stuck := rfl
@[simp] theorem miZip_d : miZip r σ h = bindR (r σ h) fun xs h1 => match xs with | [x, y] => zpIt x y h1 | _ => .stuck := rfl
@[simp] theorem miCall_d {fb : List D → AH → Rv IT} : miCall fb r σ h = bindR (r σ h) fb := rfl
@[simp] theorem noX_ok {α : Type} {a : α} : noX (.ok a h) = .ok a h := rfl
@[simp] theorem okIf_d {p : Prop} [Decidable p] {v : Rv D} : okIf p v = if p then v else .stuck := rfl
@[simp] theorem forL_nil {mg : MG} : forL mg s [] σ h = .ok (.nx σ) h := rfl
@[simp] theorem mkL_f {ds : List D} : mkL false ds h = .ok (.lst ds) h := rfl
@[simp] theorem mkL_t {ds : List D} : mkL true ds h = .ok (.ref h.length) (h ++ [some (.lst ds)]) := rfl

theorem runF_rt {n : Nat} {ms : MS} {ds : List D} {d : D} {h' : AH} (e : ms (startA n ds) h = .ok (.rt d) h') : runF n ms ds h = .ok d h' := by unfold runF; rw [e]
theorem seq_nx {σ1 : AS} {h1 : AH} (e : s1 σ h = .ok (.nx σ1) h1) : sSeq s1 s2 σ h = s2 σ1 h1 := by rw [sSeq_d, e]; rfl
theorem seq_rt {d : D} {h1 : AH} (e : s1 σ h = .ok (.rt d) h1) : sSeq s1 s2 σ h = .ok (.rt d) h1 := by rw [sSeq_d, e]; rfl
theorem asg_nx {i : Nat} {d : D} {h1 : AH} (e : m σ h = .ok d h1) : sAsg m (gmName i) σ h = .ok (.nx (σ.set i (some d))) h1 := by rw [sAsg_d, e]; rfl
theorem ret_rt {d : D} {h1 : AH} (e : m σ h = .ok d h1) : sRet m σ h = .ok (.rt d) h1 := by rw [sRet_d, e]; rfl
theorem if_no {h1 : AH} (e : t σ h = .ok false h1) : sIf t s1 sNext σ h = .ok (.nx σ) h1 := by rw [sIf_d, e]; rfl
end DV
end
section
set_option Elab.async false
set_option linter.all false
set_option maxRecDepth 100000
namespace DV
open PySem L2
/-! == and in over lists of ints and of pairs -/
theorem eqvAll_refl : ∀ {xs : List PyData}, (∀ x ∈ xs, PyData.eqv x x = true) → PyData.eqvAll xs xs = true
  | [], _ => by simp only [PyData.eqvAll]
  | x :: xs, h => by
    simp only [PyData.eqvAll, h x (by simp), Bool.true_and]
    exact eqvAll_refl fun y hy => h y (by simp [hy])
theorem allS_map {α β : Type} {f : α → Option β} {g : α → β} (e : ∀ x, f x = some (g x)) : ∀ xs : List α, allS (xs.map f) = some (xs.map g)
  | [] => rfl
  | x :: xs => by simp only [List.map_cons, e, allS, allS_map e xs, Option.map]
theorem toP_ints (n : Nat) (h : AH) (xs : List Int) : toP (n + 2) h (.lst (xs.map D.int)) = some (.list (xs.map PyData.int)) := by
  have : allS ((xs.map D.int).map (toP (n + 1) h)) = some (xs.map PyData.int) := by
    rw [List.map_map]
    exact allS_map (fun x => rfl) xs
  simp only [toP, getL] at this ⊢
  rw [this]
  rfl
theorem toP_prs (n : Nat) (h : AH) (xs : List (Int × Int)) : toP (n + 3) h (.lst (xs.map pD)) = some (.list (xs.map fun p => PyData.tuple [.int p.1, .int p.2])) := by
  have : allS ((xs.map pD).map (toP (n + 2) h)) = some (xs.map fun p => PyData.tuple [.int p.1, .int p.2]) := by
    rw [List.map_map]
    exact allS_map (fun x => rfl) xs
  simp only [toP, getL] at this ⊢
  rw [this]
  rfl
theorem dNe_ints (xs : List Int) (h : AH) : dNe (.lst (xs.map D.int)) (.lst (xs.map D.int)) h = .ok (.bl false) h := by
  unfold dNe dEqB
  rw [show (20 : Nat) = 18 + 2 from rfl, toP_ints]
  have : PyData.eqvAll (xs.map PyData.int) (xs.map PyData.int) = true := eqvAll_refl fun x hx => by
    obtain ⟨i, _, rfl⟩ := List.mem_map.mp hx
    simp [PyData.eqv]
  simp [PyData.eqv, this]
theorem dNe_prs (xs : List (Int × Int)) (h : AH) : dNe (.lst (xs.map pD)) (.lst (xs.map pD)) h = .ok (.bl false) h := by
  unfold dNe dEqB
  rw [show (20 : Nat) = 17 + 3 from rfl, toP_prs]
  have : PyData.eqvAll (xs.map fun p => PyData.tuple [.int p.1, .int p.2]) (xs.map fun p => PyData.tuple [.int p.1, .int p.2]) = true := eqvAll_refl fun x hx => by
    obtain ⟨i, _, rfl⟩ := List.mem_map.mp hx
    simp [PyData.eqv, PyData.eqvAll]
  simp [PyData.eqv, this]
theorem dNe_ints_nil (xs : List Int) (h : AH) : dNe (.lst (xs.map D.int)) (.lst []) h = .ok (.bl (!xs.isEmpty)) h := by
  unfold dNe dEqB
  rw [show (20 : Nat) = 18 + 2 from rfl, toP_ints, show D.lst [] = .lst (([] : List Int).map D.int) from rfl, toP_ints]
  cases xs with
  | nil => simp [PyData.eqv, PyData.eqvAll]
  | cons x xs => simp [PyData.eqv, PyData.eqvAll]
theorem dIn_ints (k : Int) (xs : List Int) (h : AH) : dIn (.int k) (.lst (xs.map D.int)) h = .ok (.bl (decide (k ∈ xs))) h := by
  unfold dIn dInB
  rw [show (20 : Nat) = 18 + 2 from rfl, toP_ints]
  have e : toP (18 + 2) h (.int k) = some (.int k) := rfl
  rw [e]
  simp only [List.any_map]
  have : (xs.any ((fun z => PyData.eqv z (.int k)) ∘ PyData.int)) = decide (k ∈ xs) := by
    rw [Bool.eq_iff_iff]
    simp [PyData.eqv]
  rw [this]
theorem dNe_tup_int4 (a b c d : Int) (h : AH) : dNe (.tup [.int a, .int b, .int c, .int d]) (.tup [.int a, .int b, .int c, .int d]) h = .ok (.bl false) h := by
  simp [dNe, dEqB, toP, allS, PyData.eqv, PyData.eqvAll]
end DV
end
section
set_option Elab.async false
set_option linter.all false
set_option maxRecDepth 100000
namespace DV
open PySem L2
/-! a comprehension's walk over plain items that leaves the heap as it is -/
theorem compL_filter {α : Type} {enc out : α → D} {P : α → Bool} {mg : MG} {mt : MT} {me : ME} {σ : AS} {h : AH} : ∀ (ds : List α), (∀ x ∈ ds, ∃ σ', mg (enc x) σ h = .ok σ' h ∧ mt σ' h = .ok (P x) h ∧ (P x = true → me σ' h = .ok (out x) h)) →
    ∀ acc : List D, acc.length + ds.length ≤ 1000 → compL mg mt me (ds.map enc) σ acc h = .ok (acc ++ (ds.filter P).map out) h
  | [], _, acc, _ => by simp [compL]
  | x :: ds, hs, acc, hl => by
    obtain ⟨σ', e1, e2, e3⟩ := hs x (by simp)
    simp only [List.length_cons] at hl
    have s1 : acc.length < sizeLine := by rw [sizeLine_eq]; omega
    rw [List.map_cons, compL, e1]
    dsimp only
    rw [e2]
    by_cases q : P x = true
    · have ih := compL_filter ds (fun y hy => hs y (by simp [hy])) (acc ++ [out x]) (by simp; omega)
      rw [List.filter_cons, if_pos q, q]
      simp only [noX_ok, bindR_okS, if_true, e3 q, s1, ih, List.map_cons, List.append_assoc, List.cons_append, List.nil_append]
    · have ih := compL_filter ds (fun y hy => hs y (by simp [hy])) acc (by omega)
      rw [List.filter_cons, if_neg q]
      have q' : P x = false := by simpa using q
      rw [q']
      simp only [noX_ok, bindR_okS, Bool.false_eq_true, if_false, ih]
theorem compL_map {α : Type} {enc out : α → D} {mg : MG} {mt : MT} {me : ME} {σ : AS} {h : AH} (ds : List α) (hs : ∀ x ∈ ds, ∃ σ', mg (enc x) σ h = .ok σ' h ∧ mt σ' h = .ok true h ∧ me σ' h = .ok (out x) h) (acc : List D) (hl : acc.length + ds.length ≤ 1000) :
    compL mg mt me (ds.map enc) σ acc h = .ok (acc ++ ds.map out) h := by
  have := compL_filter (P := fun _ => true) ds (fun x hx => by obtain ⟨σ', a, b, c⟩ := hs x hx; exact ⟨σ', a, b, fun _ => c⟩) acc hl
  rwa [List.filter_eq_self.mpr (fun _ _ => rfl)] at this
end DV
end
section
set_option Elab.async false
set_option linter.all false
set_option maxRecDepth 100000
namespace DV
open PySem L2 SrtO
/-! the plain side: small values -/
theorem enD_len : ∀ (ds : List D) (k : Nat), (enD k ds).length = ds.length
  | [], _ => rfl
  | _ :: ds, k => by simp [enD, enD_len ds (k + 1)]
theorem big3 {n : Nat} (h : n ≤ 1000) : n < bigN := by simp [bigN]; omega
theorem line3 {n : Nat} (h : n ≤ 1000) : n < sizeLine := by rw [sizeLine_eq]; omega
theorem line3' {n : Nat} (h : n ≤ 1000) : n ≤ sizeLine := by rw [sizeLine_eq]; omega
theorem cmul_small {a b : Int} (h0 : 0 ≤ b) (h1 : b ≤ 1000000) : CMul a b := .inr ⟨by omega, by omega⟩
theorem cmul_left {a b : Int} (h0 : 0 ≤ a) (h1 : a ≤ 1000000) : CMul a b := .inl ⟨by omega, by omega⟩
theorem len_tup (ds : List D) (h : AH) : bLen [.tup ds] h = .ok (.int ds.length) h := rfl
theorem len_lst (ds : List D) (h : AH) : bLen [.lst ds] h = .ok (.int ds.length) h := rfl
theorem len_map {α : Type} (f : α → D) (xs : List α) (h : AH) : bLen [.lst (xs.map f)] h = .ok (.int xs.length) h := by rw [len_lst, List.length_map]
theorem len_mapT {α : Type} (f : α → D) (xs : List α) (h : AH) : bLen [.tup (xs.map f)] h = .ok (.int xs.length) h := by rw [len_tup, List.length_map]
theorem atI_of {ds : List D} {n : Nat} {i : Int} {d : D} (hi : i = n) (e : ds[n]? = some d) : atI ds i = some d := by
  subst hi
  exact atI_nat e
theorem ix_tup2 {ds : List D} {n : Nat} {i : Int} {d : D} {h : AH} (hi : i = n) (e : ds[n]? = some d) : ixD (.tup ds) (.int i) h = .ok d h := by
  simp only [ixD, getS, atI_of hi e]
theorem ix_lst2 {ds : List D} {n : Nat} {i : Int} {d : D} {h : AH} (hi : i = n) (e : ds[n]? = some d) : ixD (.lst ds) (.int i) h = .ok d h := by
  simp only [ixD, getS, getL, atI_of hi e]
theorem ix_last {ds : List D} {d : D} {h : AH} : ixD (.lst (ds ++ [d])) (.int (-1)) h = .ok d h := by
  simp only [ixD, getS, getL, atI_last]
theorem get_end {h : AH} {x : Option O} : (h ++ [x])[h.length]? = some x := by simp
theorem set_end {h : AH} {x y : Option O} : (h ++ [x]).set h.length y = h ++ [y] := by simp
theorem intsD_map : ∀ ns : List Int, intsD (ns.map D.int) = some ns
  | [] => rfl
  | n :: ns => by simp [intsD, intsD_map ns]
def sumI : List Int → Int
  | [] => 0
  | a :: r => a + sumI r
theorem sum_sumI : ∀ ns : List Int, ns.sum = sumI ns
  | [] => rfl
  | n :: ns => by simp [sumI, sum_sumI ns]
theorem bSum_lst (ns : List Int) (h : AH) : bSum [.lst (ns.map D.int)] h = .ok (.int (sumI ns)) h := by
  simp [bSum, getS, getL, intsD_map, sum_sumI]
theorem rgD_len (a b : Int) (n : Nat) : (rgD a b n).length = n := by simp [rgD]
theorem cutD_tl (d : D) (ds : List D) : cutD (d :: ds) (some 1) none = ds := by
  unfold cutD
  simp [HT.sIx]
theorem zipD_len : ∀ xs ys : List D, (zipD xs ys).length ≤ xs.length
  | [], _ => by simp [zipD]
  | _ :: _, [] => by simp [zipD]
  | x :: xs, y :: ys => by
    have := zipD_len xs ys
    simp only [zipD, List.length_cons]
    omega
def enumL {α : Type} : Nat → List α → List (Nat × α)
  | _, [] => []
  | k, x :: xs => (k, x) :: enumL (k + 1) xs
theorem enumL_len {α : Type} : ∀ (xs : List α) (k : Nat), (enumL k xs).length = xs.length
  | [], _ => rfl
  | _ :: xs, k => by simp [enumL, enumL_len xs]
theorem enumL_mem {α : Type} : ∀ (xs : List α) (k : Nat), ∀ p ∈ enumL k xs, p.2 ∈ xs
  | [], _, p, h => by simp [enumL] at h
  | x :: xs, k, p, h => by
    rcases List.mem_cons.mp h with rfl | h
    · exact List.mem_cons_self
    · exact List.mem_cons_of_mem _ (enumL_mem xs (k + 1) p h)
def enE {α : Type} (f : α → D) (p : Nat × α) : D := .tup [.int (p.1 : Int), f p.2]
theorem enD_map {α : Type} (f : α → D) : ∀ (xs : List α) (k : Nat), enD k (xs.map f) = (enumL k xs).map (enE f)
  | [], _ => rfl
  | x :: xs, k => by rw [List.map_cons, enD, enumL, List.map_cons, enD_map f xs]; rfl
theorem gxL_filter {α : Type} {enc out : α → D} {P : α → Bool} {mg : MG} {mt : MT} {me : ME} {σ : AS} {h : AH} : ∀ (ds : List α), (∀ x ∈ ds, ∃ σ', mg (enc x) σ h = .ok σ' h ∧ mt σ' h = .ok (P x) h ∧ (P x = true → me σ' h = .ok (out x) h)) →
    ∀ st : List D, gxL mg mt me tkCol (ds.map enc) σ st h = .ok (st ++ (ds.filter P).map out) h
  | [], _, st => by simp [gxL]
  | x :: ds, hs, st => by
    obtain ⟨σ', e1, e2, e3⟩ := hs x (by simp)
    rw [List.map_cons, gxL, e1]
    dsimp only
    rw [e2]
    by_cases q : P x = true
    · have ih := gxL_filter ds (fun y hy => hs y (by simp [hy])) (st ++ [out x])
      rw [List.filter_cons, if_pos q, q]
      simp only [noX_ok, bindR_okS, if_true, e3 q, tkCol, ih, List.map_cons, List.append_assoc, List.cons_append, List.nil_append]
    · have ih := gxL_filter ds (fun y hy => hs y (by simp [hy])) st
      rw [List.filter_cons, if_neg q]
      have q' : P x = false := by simpa using q
      rw [q']
      simp only [noX_ok, bindR_okS, Bool.false_eq_true, if_false, ih]
theorem gxL_none {α : Type} {enc : α → D} {mg : MG} {me : ME} {σ : AS} {h : AH} : ∀ (ds : List α), (∀ x ∈ ds, ∃ σ', mg (enc x) σ h = .ok σ' h ∧ me σ' h = .ok (.bl false) h) → gxL mg mYes me tkAny (ds.map enc) σ false h = .ok false h
  | [], _ => rfl
  | x :: ds, hs => by
    obtain ⟨σ', e1, e2⟩ := hs x (by simp)
    rw [List.map_cons, gxL, e1]
    simp only [mYes_d, noX_ok, bindR_okS, if_true, e2, tkAny]
    exact gxL_none ds fun y hy => hs y (by simp [hy])
/-- neighbours -/
def nbrs {α : Type} : List α → List (α × α)
  | a :: b :: r => (a, b) :: nbrs (b :: r)
  | _ => []
theorem nbrs_len {α : Type} : ∀ xs : List α, (nbrs xs).length = xs.length - 1
  | [] => rfl
  | [_] => rfl
  | _ :: b :: r => by simp [nbrs, nbrs_len (b :: r)]
def pairE {α : Type} (f : α → D) (p : α × α) : D := .tup [f p.1, f p.2]
theorem zip_nbrs {α : Type} (f : α → D) : ∀ xs : List α, zipD (xs.map f) (xs.tail.map f) = (nbrs xs).map (pairE f)
  | [] => rfl
  | [_] => rfl
  | a :: b :: r => by
    have := zip_nbrs f (b :: r)
    simp only [List.tail_cons, List.map_cons, zipD, nbrs] at this ⊢
    rw [this]
    rfl
theorem cut_tl {α : Type} (f : α → D) (xs : List α) : cutD (xs.map f) (some 1) none = xs.tail.map f := by
  cases xs with
  | nil => simp [cutD, HT.sIx]
  | cons x xs => rw [List.map_cons, cutD_tl]; rfl
theorem bMax2_int (a b : Int) (h : AH) : bMax2 [.int a, .int b] h = .ok (.int (max a b)) h := by
  simp only [bMax2, Rv.ok.injEq, D.int.injEq, and_true]
  split <;> omega
theorem bMin2_int (a b : Int) (h : AH) : bMin2 [.int a, .int b] h = .ok (.int (min a b)) h := by
  simp only [bMin2, Rv.ok.injEq, D.int.injEq, and_true]
  split <;> omega
end DV
namespace DV
open PySem L2 SrtO
theorem gxL_any {α : Type} {enc : α → D} {P : α → Bool} {mg : MG} {me : ME} {σ : AS} {h : AH} : ∀ (ds : List α), (∀ x ∈ ds, ∃ σ', mg (enc x) σ h = .ok σ' h ∧ me σ' h = .ok (.bl (P x)) h) → gxL mg mYes me tkAny (ds.map enc) σ false h = .ok (ds.any P) h
  | [], _ => rfl
  | x :: ds, hs => by
    obtain ⟨σ', e1, e2⟩ := hs x (by simp)
    rw [List.map_cons, gxL, e1]
    simp only [mYes_d, noX_ok, bindR_okS, if_true, e2]
    cases q : P x with
    | true => simp [tkAny, q]
    | false => simp [tkAny, q, gxL_any ds fun y hy => hs y (by simp [hy])]
theorem dNe_str {x y : Str} (hx : PyData.strOk x = true) (hy : PyData.strOk y = true) (h : AH) : dNe (.str x) (.str y) h = .ok (.bl (!decide (x = y))) h := by
  by_cases q : x = y <;> simp [dNe, dEqB, toP, PyData.eqv, hx, hy, q]
theorem dEq_str {x y : Str} (hx : PyData.strOk x = true) (hy : PyData.strOk y = true) (h : AH) : dEq (.str x) (.str y) h = .ok (.bl (decide (x = y))) h := by
  by_cases q : x = y <;> simp [dEq, dEqB, toP, PyData.eqv, hx, hy, q]
/-! == of lists whose things are plain -/
def PyOk (enc : α → D) (f : α → PyData) (S : α → Prop) : Prop := ∀ x, S x → ∀ n h, toP (n + 3) h (enc x) = some (f x)
theorem allS_mapS {α β : Type} {f : α → Option β} {g : α → β} : ∀ xs : List α, (∀ x ∈ xs, f x = some (g x)) → allS (xs.map f) = some (xs.map g)
  | [], _ => rfl
  | x :: xs, e => by
    rw [List.map_cons, e x (by simp)]
    simp only [allS, allS_mapS xs fun y hy => e y (by simp [hy]), Option.map, List.map_cons]
theorem toP_lst {α : Type} {enc : α → D} {f : α → PyData} {n : Nat} {h : AH} {xs : List α} (e : ∀ x ∈ xs, toP n h (enc x) = some (f x)) : toP (n + 1) h (.lst (xs.map enc)) = some (.list (xs.map f)) := by
  have : allS ((xs.map enc).map (toP n h)) = some (xs.map f) := by
    rw [List.map_map]
    exact allS_mapS xs e
  simp only [toP, getL] at this ⊢
  rw [this]
  rfl
theorem dNe_lst_nil {α : Type} {enc : α → D} {f : α → PyData} {h : AH} {xs : List α} (e : ∀ x ∈ xs, toP 19 h (enc x) = some (f x)) : dNe (.lst (xs.map enc)) (.lst []) h = .ok (.bl (!xs.isEmpty)) h := by
  unfold dNe dEqB
  rw [show (20 : Nat) = 19 + 1 from rfl, toP_lst e, show D.lst [] = .lst (([] : List α).map enc) from rfl, toP_lst (f := f) (by simp)]
  cases xs with
  | nil => simp [PyData.eqv, PyData.eqvAll]
  | cons x xs => simp [PyData.eqv, PyData.eqvAll]
theorem dNe_lst_same {α : Type} {enc : α → D} {f : α → PyData} {h : AH} {xs : List α} (e : ∀ x ∈ xs, toP 19 h (enc x) = some (f x)) (r : ∀ x ∈ xs, PyData.eqv (f x) (f x) = true) : dNe (.lst (xs.map enc)) (.lst (xs.map enc)) h = .ok (.bl false) h := by
  unfold dNe dEqB
  rw [show (20 : Nat) = 19 + 1 from rfl, toP_lst e]
  have : PyData.eqvAll (xs.map f) (xs.map f) = true := eqvAll_refl fun x hx => by
    obtain ⟨i, hi, rfl⟩ := List.mem_map.mp hx
    exact r i hi
  simp [PyData.eqv, this]
end DV
end
section
set_option Elab.async false
set_option linter.all false
set_option maxRecDepth 100000
namespace DV
open PySem L2 SrtO
/-! dicts on the plain side -/
def dcL (mg : MG) (mt : MT) (mk mv : ME) (dn : Nat) : List D → AS → AH → Rv Unit
  | [], _, h => .ok () h
  | d :: ds, σ, h => match mg d σ h with
    | .ok σ1 h1 => bindR (noX (mt σ1 h1)) fun k h2 => if k = true then bindR (noX (mk σ1 h2)) fun y h3 => bindR (noX (mv σ1 h3)) fun z h4 => match setD (.ref dn) y z h4 with
          | some h5 => dcL mg mt mk mv dn ds σ h5
          | none => .stuck
        else dcL mg mt mk mv dn ds σ h2
    | _ => .stuck
theorem dcN_eq {it : IT} {ds : List D} (hi : ItIs it ds) {mg : MG} {mt : MT} {mk mv : ME} {dn : Nat} : ∀ (n i : Nat) (σ : AS) (h : AH), ds.length - i < n → dcN it mg mt mk mv dn n i σ h = dcL mg mt mk mv dn (ds.drop i) σ h
  | 0, i, σ, h, hl => by omega
  | n + 1, i, σ, h, hl => by
    unfold dcN
    rw [hi i h]
    by_cases hlt : i < ds.length
    · rw [List.getElem?_eq_getElem hlt, List.drop_eq_getElem_cons hlt]
      dsimp only
      unfold dcL
      cases mg ds[i] σ h with
      | ok σ1 h1 =>
        dsimp only
        congr 1
        funext k h2
        split
        · congr 1
          funext y h3
          congr 1
          funext z h4
          cases setD (.ref dn) y z h4 with
          | none => rfl
          | some h5 => exact dcN_eq hi n (i + 1) σ h5 (by omega)
        · exact dcN_eq hi n (i + 1) σ h2 (by omega)
      | _ => rfl
    · rw [List.getElem?_eq_none (by omega), List.drop_eq_nil_of_le (by omega)]
      rfl
theorem setD_end {h : AH} {ks : List (Key × D)} {k v : D} {key : Key} (hk : keyD k = some key) (hl : ks.length ≤ 400) : setD (.ref h.length) k v (h ++ [some (.dct ks)]) = some (h ++ [some (.dct (putKd ks key v))]) := by
  have s1 : ks.length < sizeLine := line3 (by omega)
  simp only [setD, dctAt, get_end, hk, s1, if_true, set_end]
theorem putKd_len (ks : List (Key × D)) (k : Key) (v : D) : (putKd ks k v).length ≤ ks.length + 1 := by
  unfold putKd
  split <;> simp
theorem dcL_put {α : Type} {enc : α → D} {key : α → Key} {val : α → D} {kd : α → D} {mg : MG} {mt : MT} {mk mv : ME} {σ : AS} {h : AH} : ∀ (xs : List α) (ks : List (Key × D)), (∀ x ∈ xs, keyD (kd x) = some (key x) ∧ ∀ hh, ∃ σ', mg (enc x) σ hh = .ok σ' hh ∧ mt σ' hh = .ok true hh ∧ mk σ' hh = .ok (kd x) hh ∧ mv σ' hh = .ok (val x) hh) → ks.length + xs.length ≤ 400 →
    dcL mg mt mk mv h.length (xs.map enc) σ (h ++ [some (.dct ks)]) = .ok () (h ++ [some (.dct (mergeKd ks (xs.map fun x => (key x, val x))))])
  | [], ks, _, _ => rfl
  | x :: xs, ks, hs, hl => by
    simp only [List.length_cons] at hl
    obtain ⟨hk, hx⟩ := hs x (by simp)
    obtain ⟨σ', e1, e2, e3, e4⟩ := hx (h ++ [some (.dct ks)])
    have pl := putKd_len ks (key x) (val x)
    rw [List.map_cons, dcL, e1]
    simp only [e2, e3, e4, noX_ok, bindR_okS, if_true, setD_end hk (show ks.length ≤ 400 by omega)]
    rw [dcL_put xs _ (fun y hy => hs y (by simp [hy])) (by omega)]
    rfl
theorem mDc_put {α : Type} {enc : α → D} {key : α → Key} {val : α → D} {kd : α → D} {mu : Bool} {mi : MI} {vs : List Nat} {mg : MG} {mt : MT} {mk mv : ME} {σ : AS} {h : AH} {it : IT} (xs : List α) (hi : mi σ h = .ok it h) (is : ItIs it (xs.map enc))
    (hs : ∀ x ∈ xs, keyD (kd x) = some (key x) ∧ ∀ hh, ∃ σ', mg (enc x) (wipeA σ vs) hh = .ok σ' hh ∧ mt σ' hh = .ok true hh ∧ mk σ' hh = .ok (kd x) hh ∧ mv σ' hh = .ok (val x) hh) (hl : xs.length ≤ 400) :
    mDc mu mi vs mg mt mk mv σ h = if mu = true then .ok (.ref h.length) (h ++ [some (.dct (mergeKd [] (xs.map fun x => (key x, val x))))]) else .ok (.dct (mergeKd [] (xs.map fun x => (key x, val x)))) (h ++ [none]) := by
  unfold mDc
  rw [hi, bindR_okS, dcN_eq is bigN 0 _ _ (by have := big3 (n := xs.length) (by omega); simp; omega), List.drop_zero, dcL_put xs [] hs (by simp; omega), bindR_okS]
  cases mu with
  | true => rfl
  | false => simp only [frzD, get_end, set_end, Bool.false_eq_true, if_false]
/-! keys -/
def addK (ks : List Str) (x : Str) : List Str := if x ∈ ks then ks else ks ++ [x]
def dedupL (xs : List Str) : List Str := xs.foldl addK []
theorem keysS_map : ∀ {K : List (Key × D)} {ks : List Str}, K.map (·.1) = ks.map Sum.inr → keysS K = some ks
  | [], ks, e => by
    cases ks with
    | nil => rfl
    | cons k ks => cases e
  | (k, d) :: K, ks, e => by
    cases ks with
    | nil => cases e
    | cons x ks =>
      rw [List.map_cons, List.map_cons] at e
      injection e with e1 e2
      dsimp only at e1
      subst e1
      simp only [keysS, keysS_map e2, Option.map]
theorem putKd_keys {K : List (Key × D)} {ks : List Str} (e : K.map (·.1) = ks.map Sum.inr) (x : Str) (v : D) : (putKd K (.inr x) v).map (·.1) = (addK ks x).map Sum.inr := by
  have hm : (K.any fun p => decide (p.1 = (.inr x : Key))) = decide (x ∈ ks) := by
    rw [Bool.eq_iff_iff, List.any_eq_true, decide_eq_true_iff]
    constructor
    · rintro ⟨p, hp, q⟩
      have : p.1 ∈ K.map (·.1) := List.mem_map_of_mem hp
      rw [e] at this
      obtain ⟨y, hy, z⟩ := List.mem_map.mp this
      rw [of_decide_eq_true q] at z
      cases z
      exact hy
    · intro hx
      have : (Sum.inr x : Key) ∈ K.map (·.1) := by rw [e]; exact List.mem_map_of_mem hx
      obtain ⟨p, hp, q⟩ := List.mem_map.mp this
      exact ⟨p, hp, decide_eq_true q⟩
  unfold putKd addK
  rw [hm]
  by_cases q : x ∈ ks
  · rw [if_pos (decide_eq_true q), if_pos q, ← e, List.map_map]
    refine List.map_congr_left fun p _ => ?_
    simp only [Function.comp]
    split <;> rfl
  · rw [if_neg (by simpa using q), if_neg q, List.map_append, e, List.map_append]
    rfl
theorem merge_keys {α : Type} (key : α → Str) (val : α → D) : ∀ (xs : List α) {K : List (Key × D)} {ks : List Str}, K.map (·.1) = ks.map Sum.inr → (mergeKd K (xs.map fun x => ((.inr (key x) : Key), val x))).map (·.1) = ((xs.map key).foldl addK ks).map Sum.inr
  | [], K, ks, e => e
  | x :: xs, K, ks, e => by
    show (mergeKd (putKd K (.inr (key x)) (val x)) (xs.map fun x => ((.inr (key x) : Key), val x))).map (·.1) = ((xs.map key).foldl addK (addK ks (key x))).map Sum.inr
    exact merge_keys key val xs (putKd_keys e (key x) (val x))
theorem addK_mem {ks : List Str} {x y : Str} : y ∈ addK ks x ↔ y ∈ ks ∨ y = x := by
  unfold addK
  split
  · rename_i h
    constructor
    · exact .inl
    · rintro (q | rfl)
      · exact q
      · exact h
  · simp
theorem fold_mem : ∀ (xs ks : List Str) (y : Str), y ∈ xs.foldl addK ks ↔ y ∈ ks ∨ y ∈ xs
  | [], ks, y => by simp
  | x :: xs, ks, y => by
    rw [List.foldl_cons, fold_mem xs, addK_mem]
    simp only [List.mem_cons]
    constructor
    · rintro ((h | h) | h)
      · exact .inl h
      · exact .inr (.inl h)
      · exact .inr (.inr h)
    · rintro (h | h | h)
      · exact .inl (.inl h)
      · exact .inl (.inr h)
      · exact .inr h
theorem fold_nodup : ∀ (xs ks : List Str), ks.Nodup → (xs.foldl addK ks).Nodup
  | [], ks, h => h
  | x :: xs, ks, h => by
    rw [List.foldl_cons]
    refine fold_nodup xs _ ?_
    unfold addK
    split
    · exact h
    · rename_i q
      refine List.nodup_append.mpr ⟨h, by simp, fun a ha b hb => ?_⟩
      simp at hb
      subst hb
      rintro rfl
      exact q ha
theorem fold_len : ∀ (xs ks : List Str), (xs.foldl addK ks).length ≤ ks.length + xs.length
  | [], ks => by simp
  | x :: xs, ks => by
    have := fold_len xs (addK ks x)
    have h2 : (addK ks x).length ≤ ks.length + 1 := by unfold addK; split <;> simp
    simp only [List.foldl_cons, List.length_cons]
    omega
theorem srt_dct {K : List (Key × D)} {ks : List Str} {h : AH} (e : K.map (·.1) = ks.map Sum.inr) (hl : ks.length < 64) : bSorted2 false [.dct K] h = .ok (.lst ((srtS ks).map D.str)) h := by
  have e1 : getL h (.dct K) = none := rfl
  have e2 : getK h (.dct K) = some K := rfl
  simp only [bSorted2, srt2, e1, e2, keysS_map e, okIf_d, hl, if_true, mkL_f]
theorem dIn2_tup (k : Int) (xs : List Int) (h : AH) : dIn2 true (.int k) (.tup (xs.map D.int)) h = .ok (.bl (!decide (k ∈ xs))) h := by
  have e1 : allS ((xs.map D.int).map (toP 19 h)) = some (xs.map PyData.int) := by
    rw [List.map_map]
    exact allS_mapS xs fun x _ => rfl
  have e2 : dInB (.int k) (.tup (xs.map D.int)) h = none := by
    unfold dInB
    have a : toP 20 h (.int k) = some (.int k) := rfl
    have b : toP 20 h (.tup (xs.map D.int)) = some (.tuple (xs.map PyData.int)) := by
      show (allS ((xs.map D.int).map (toP 19 h))).map PyData.tuple = _
      rw [e1]
      rfl
    rw [a, b]
  have e3 : allS ((xs.map D.int).map flatD) = some (xs.map V.int) := by
    rw [List.map_map]
    exact allS_mapS xs fun x _ => rfl
  have e4 : inV (.int k) (xs.map V.int) = decide (k ∈ xs) := by
    unfold inV
    rw [List.any_map, Bool.eq_iff_iff]
    simp [eqV]
  unfold dIn2
  rw [e2]
  simp only [flatD, e3, e4, if_true]
theorem dIn2_lst (k : Int) (xs : List Int) (h : AH) : dIn2 true (.int k) (.lst (xs.map D.int)) h = .ok (.bl (!decide (k ∈ xs))) h := by
  have e2 : dInB (.int k) (.lst (xs.map D.int)) h = some (decide (k ∈ xs)) := by
    have := dIn_ints k xs h
    unfold dIn at this
    split at this
    · rename_i q e
      rw [e]
      injection this with a b
      injection a with a
      rw [a]
    · cases this
  unfold dIn2
  rw [e2]
  rfl
theorem dIn2_strs {x : Str} {ys : List Str} (hx : PyData.strOk x = true) (hy : ∀ y ∈ ys, PyData.strOk y = true) (h : AH) : dIn2 true (.str x) (.lst (ys.map D.str)) h = .ok (.bl (!decide (x ∈ ys))) h := by
  have e1 : toP 20 h (.lst (ys.map D.str)) = some (.list (ys.map PyData.str)) := toP_lst fun y h' => by simp [toP, hy y h']
  have e0 : toP 20 h (.str x) = some (.str x) := by simp [toP, hx]
  have e2 : dInB (.str x) (.lst (ys.map D.str)) h = some (decide (x ∈ ys)) := by
    unfold dInB
    rw [e0, e1]
    simp only [Option.some.injEq]
    rw [List.any_map, Bool.eq_iff_iff]
    simp [PyData.eqv]
  unfold dIn2
  rw [e2]
  rfl
end DV
end
section
set_option Elab.async false
set_option linter.all false
set_option maxRecDepth 100000
namespace DV
open PySem L2 SrtO
/-! ### loops over what lies in the heap -/
theorem gxN_fold {S α : Type} {it : IT} {enc out : α → D} {P : α → Bool} {tk : S → D → Option (S × Bool)} {up : S → α → S} {mg : MG} {mt : MT} {me : ME} {σ : AS} {h : AH} (xs : List α)
    (hi : ∀ i, it i h = match (xs.map enc)[i]? with | some d => .go d | none => .stop)
    (hs : ∀ x ∈ xs, ∃ σ', mg (enc x) σ h = .ok σ' h ∧ mt σ' h = .ok (P x) h ∧ (P x = true → me σ' h = .ok (out x) h)) (ht : ∀ st x, x ∈ xs → P x = true → tk st (out x) = some (up st x, true)) :
    ∀ (n i : Nat) (st : S), xs.length - i < n → gxN it mg mt me tk n i σ st h = .ok (((xs.drop i).filter P).foldl up st) h
  | 0, i, st, hl => by omega
  | n + 1, i, st, hl => by
    unfold gxN
    rw [hi i]
    by_cases hlt : i < xs.length
    · rw [List.getElem?_map, List.getElem?_eq_getElem hlt, List.drop_eq_getElem_cons hlt]
      dsimp only [Option.map]
      obtain ⟨σ', e1, e2, e3⟩ := hs xs[i] (List.getElem_mem hlt)
      rw [e1]
      dsimp only
      rw [e2]
      by_cases q : P xs[i] = true
      · rw [q, noX_ok, bindR_okS, if_pos rfl, e3 q, noX_ok, bindR_okS, ht st _ (List.getElem_mem hlt) q, List.filter_cons_of_pos q]
        dsimp only
        rw [gxN_fold xs hi hs ht n (i + 1) _ (by omega)]
        rfl
      · have q' : P xs[i] = false := by simpa using q
        rw [q', noX_ok, bindR_okS, if_neg (by simp), List.filter_cons_of_neg q, gxN_fold xs hi hs ht n (i + 1) _ (by omega)]
    · rw [List.getElem?_eq_none (by simp; omega), List.drop_eq_nil_of_le (by omega)]
      rfl
theorem mGx_fold {S α : Type} {mi : MI} {vs : List Nat} {it : IT} {enc out : α → D} {P : α → Bool} {tk : S → D → Option (S × Bool)} {up : S → α → S} {mg : MG} {mt : MT} {me : ME} {fk : S → AH → Rv D} {σ : AS} {h h1 : AH} {st : S} (xs : List α) (hmi : mi σ h = .ok it h1)
    (hi : ∀ i, it i h1 = match (xs.map enc)[i]? with | some d => .go d | none => .stop) (hl : xs.length ≤ 1000)
    (hs : ∀ x ∈ xs, ∃ σ', mg (enc x) (wipeA σ vs) h1 = .ok σ' h1 ∧ mt σ' h1 = .ok (P x) h1 ∧ (P x = true → me σ' h1 = .ok (out x) h1)) (ht : ∀ st x, x ∈ xs → P x = true → tk st (out x) = some (up st x, true)) :
    mGx mi vs mg mt me tk st fk σ h = fk ((xs.filter P).foldl up st) h1 := by
  unfold mGx
  rw [hmi, bindR_okS, gxN_fold xs hi hs ht sizeLine 0 st (line3 (by omega))]
  rfl
theorem itRef {α : Type} {enc : α → D} {h : AH} {n : Nat} {xs : List α} (e : h[n]? = some (some (.lst (xs.map enc)))) : ∀ i, itOf (.ref n) i h = match (xs.map enc)[i]? with | some d => .go d | none => .stop := fun i => by
  simp only [itOf, getL, e]
  rfl
theorem itLT_ref {h : AH} {n : Nat} {ds : List D} (e : h[n]? = some (some (.lst ds))) : itLT (.ref n) h = .ok (itOf (.ref n)) h := by
  simp only [itLT, getL, e]
theorem foldl_sum {α : Type} (f : α → Int) : ∀ (xs : List α) (c : Int), xs.foldl (fun st x => st + f x) c = c + sumI (xs.map f)
  | [], c => by simp [sumI]
  | x :: xs, c => by rw [List.foldl_cons, foldl_sum f xs, List.map_cons, sumI]; omega
theorem foldl_snoc {α : Type} (f : α → D) : ∀ (xs : List α) (c : List D), xs.foldl (fun st x => st ++ [f x]) c = c ++ xs.map f
  | [], c => by simp
  | x :: xs, c => by rw [List.foldl_cons, foldl_snoc f xs]; simp
theorem filter_all {α : Type} (xs : List α) : xs.filter (fun _ => true) = xs := List.filter_eq_self.mpr fun _ _ => rfl
/-- a sum over a list in the heap -/
theorem gx_sum {α : Type} {mi : MI} {vs : List Nat} {it : IT} {enc : α → D} {f : α → Int} {mg : MG} {me : ME} {σ : AS} {h h1 : AH} (xs : List α) (hmi : mi σ h = .ok it h1)
    (hi : ∀ i, it i h1 = match (xs.map enc)[i]? with | some d => .go d | none => .stop) (hl : xs.length ≤ 1000)
    (hs : ∀ x ∈ xs, ∃ σ', mg (enc x) (wipeA σ vs) h1 = .ok σ' h1 ∧ me σ' h1 = .ok (.int (f x)) h1) :
    mGx mi vs mg mYes me tkSum 0 fkI σ h = .ok (.int (sumI (xs.map f))) h1 := by
  rw [mGx_fold (P := fun _ => true) (out := fun x => .int (f x)) (up := fun st x => st + f x) xs hmi hi hl (fun x hx => by obtain ⟨σ', a, b⟩ := hs x hx; exact ⟨σ', a, rfl, fun _ => b⟩) (fun st x _ _ => rfl), filter_all, foldl_sum]
  simp [fkI]
/-- a tuple of what is in a list in the heap -/
theorem gx_col {α : Type} {mi : MI} {vs : List Nat} {it : IT} {enc out : α → D} {mg : MG} {me : ME} {σ : AS} {h h1 : AH} (xs : List α) (hmi : mi σ h = .ok it h1)
    (hi : ∀ i, it i h1 = match (xs.map enc)[i]? with | some d => .go d | none => .stop) (hl : xs.length ≤ 1000)
    (hs : ∀ x ∈ xs, ∃ σ', mg (enc x) (wipeA σ vs) h1 = .ok σ' h1 ∧ me σ' h1 = .ok (out x) h1) :
    mGx mi vs mg mYes me (tkCol) [] fkT σ h = .ok (.tup (xs.map out)) h1 := by
  rw [mGx_fold (P := fun _ => true) (out := out) (up := fun st x => st ++ [out x]) xs hmi hi hl (fun x hx => by obtain ⟨σ', a, b⟩ := hs x hx; exact ⟨σ', a, rfl, fun _ => b⟩) (fun st x _ _ => rfl), filter_all, foldl_snoc]
  simp [fkT]
/-- a for over what lies in the heap, while it stays -/
theorem forN_eqP {it : IT} {ds : List D} {P : AS → AH → Prop} {mg : MG} {s : MS} (hi : ∀ i σ h, P σ h → it i h = match ds[i]? with | some d => .go d | none => .stop)
    (hb : ∀ d ∈ ds, ∀ σ h σ1 h1, P σ h → mg d σ h = .ok σ1 h1 → ∀ σ2 h2, (s σ1 h1 = .ok (.nx σ2) h2 ∨ s σ1 h1 = .ok (.ct σ2) h2) → P σ2 h2) : ∀ (n i : Nat) (σ : AS) (h : AH), P σ h → ds.length - i < n → forN it mg s n i σ h = forL mg s (ds.drop i) σ h
  | 0, i, σ, h, _, hl => by omega
  | n + 1, i, σ, h, hp, hl => by
    unfold forN
    rw [hi i σ h hp]
    by_cases hlt : i < ds.length
    · rw [List.getElem?_eq_getElem hlt, List.drop_eq_getElem_cons hlt]
      dsimp only
      unfold forL
      have hb' := hb ds[i] (List.getElem_mem hlt) σ h
      cases q : mg ds[i] σ h with
      | ok σ1 h1 =>
        dsimp only
        have hb' := hb' σ1 h1 hp q
        cases q2 : s σ1 h1 with
        | ok f h2 =>
          rw [q2] at hb'
          cases f with
          | nx σ2 => exact forN_eqP hi hb n (i + 1) σ2 h2 (hb' _ _ (.inl rfl)) (by omega)
          | ct σ2 => exact forN_eqP hi hb n (i + 1) σ2 h2 (hb' _ _ (.inr rfl)) (by omega)
          | _ => rfl
        | _ => rfl
      | _ => rfl
    · rw [List.getElem?_eq_none (by omega), List.drop_eq_nil_of_le (by omega)]
      rfl
/-! ### whiles -/
theorem while_go {t : MT} {s : MS} {n : Nat} {σ σ' : AS} {h h1 h' : AH} (ht : t σ h = .ok true h1) (hs : s σ h1 = .ok (.nx σ') h') : whileN t s (n + 1) σ h = whileN t s n σ' h' := by
  unfold whileN
  rw [ht, ofE_ok, if_pos rfl, hs, loopS_nx]
  cases n <;> rfl
theorem while_end {t : MT} {s : MS} {n : Nat} {σ : AS} {h h1 : AH} (ht : t σ h = .ok false h1) : whileN t s (n + 1) σ h = .ok (.nx σ) h1 := by
  unfold whileN
  rw [ht, ofE_ok, if_neg (by simp)]
end DV
end
section
set_option Elab.async false
set_option linter.all false
set_option maxRecDepth 100000
namespace DV
open PySem L2 SrtO
theorem lkK_put (v : D) (k k' : Key) : ∀ K : List (Key × D), lkK (putKd K k v) k' = if k' = k then some v else lkK K k' := by
  intro K
  unfold putKd
  by_cases q : (K.any fun p => decide (p.1 = k)) = true
  · rw [if_pos q]
    induction K with
    | nil => simp at q
    | cons p r ih =>
      obtain ⟨k0, d0⟩ := p
      rw [List.map_cons]
      by_cases q0 : k0 = k
      · subst q0
        rw [if_pos rfl]
        show (if k0 = k' then some v else lkK (r.map _) k') = if k' = k0 then some v else if k0 = k' then some d0 else lkK r k'
        by_cases q1 : k0 = k'
        · subst q1; simp
        · rw [if_neg q1, if_neg (fun h => q1 h.symm), if_neg q1]
          by_cases q2 : (r.any fun p => decide (p.1 = k0)) = true
          · rw [ih q2, if_neg (fun h => q1 h.symm)]
          · have : r.map (fun p => if p.1 = k0 then (p.1, v) else p) = r := by
              rw [List.map_congr_left (g := id), List.map_id]
              intro p hp
              have : p.1 ≠ k0 := fun z => q2 (List.any_eq_true.mpr ⟨p, hp, by simpa using z⟩)
              rw [if_neg this]; rfl
            rw [this]
      · rw [if_neg q0]
        have q2 : (r.any fun p => decide (p.1 = k)) = true := by simpa [q0] using q
        show (if k0 = k' then some d0 else lkK (r.map _) k') = if k' = k then some v else if k0 = k' then some d0 else lkK r k'
        rw [ih q2]
        by_cases q1 : k0 = k'
        · subst q1
          rw [if_pos rfl, if_neg q0, if_pos rfl]
        · rw [if_neg q1, if_neg q1]
  · rw [if_neg q]
    induction K with
    | nil =>
      show (if k = k' then some v else none) = _
      by_cases q1 : k' = k
      · subst q1; simp
      · rw [if_neg q1, if_neg (fun h => q1 h.symm)]; rfl
    | cons p r ih =>
      obtain ⟨k0, d0⟩ := p
      have q0 : k0 ≠ k := fun z => q (by simp [z])
      have q2 : ¬ (r.any fun p => decide (p.1 = k)) = true := fun z => q (by rw [List.any_cons, z, Bool.or_true])
      show (if k0 = k' then some d0 else lkK (r ++ [(k, v)]) k') = if k' = k then some v else if k0 = k' then some d0 else lkK r k'
      rw [ih q2]
      by_cases q1 : k0 = k'
      · subst q1
        rw [if_pos rfl, if_neg q0, if_pos rfl]
      · rw [if_neg q1, if_neg q1]
/-- {..} whose parts read the heap -/
theorem dcL_putA {α : Type} {enc : α → D} {key : α → Key} {val : α → D} {kd : α → D} {mg : MG} {mt : MT} {mk mv : ME} {σ : AS} {h : AH} : ∀ (xs : List α) (ks : List (Key × D)), (∀ x ∈ xs, keyD (kd x) = some (key x) ∧ ∀ ks, ∃ σ', mg (enc x) σ (h ++ [some (.dct ks)]) = .ok σ' (h ++ [some (.dct ks)]) ∧ mt σ' (h ++ [some (.dct ks)]) = .ok true (h ++ [some (.dct ks)]) ∧ mk σ' (h ++ [some (.dct ks)]) = .ok (kd x) (h ++ [some (.dct ks)]) ∧ mv σ' (h ++ [some (.dct ks)]) = .ok (val x) (h ++ [some (.dct ks)])) → ks.length + xs.length ≤ 400 →
    dcL mg mt mk mv h.length (xs.map enc) σ (h ++ [some (.dct ks)]) = .ok () (h ++ [some (.dct (mergeKd ks (xs.map fun x => (key x, val x))))])
  | [], ks, _, _ => rfl
  | x :: xs, ks, hs, hl => by
    simp only [List.length_cons] at hl
    obtain ⟨hk, hh⟩ := hs x (by simp)
    obtain ⟨σ', e1, e2, e3, e4⟩ := hh ks
    have pl := putKd_len ks (key x) (val x)
    rw [List.map_cons, dcL, e1]
    simp only [e2, e3, e4, noX_ok, bindR_okS, if_true, setD_end hk (show ks.length ≤ 400 by omega)]
    rw [dcL_putA xs _ (fun y hy => hs y (by simp [hy])) (by omega)]
    rfl
theorem mDc_putA {α : Type} {enc : α → D} {key : α → Key} {val : α → D} {kd : α → D} {mi : MI} {vs : List Nat} {mg : MG} {mt : MT} {mk mv : ME} {σ : AS} {h h1 : AH} {it : IT} (xs : List α) (hi : mi σ h = .ok it h1) (is : ItIs it (xs.map enc))
    (hs : ∀ x ∈ xs, keyD (kd x) = some (key x) ∧ ∀ ks, ∃ σ', mg (enc x) (wipeA σ vs) (h1 ++ [some (.dct ks)]) = .ok σ' (h1 ++ [some (.dct ks)]) ∧ mt σ' (h1 ++ [some (.dct ks)]) = .ok true (h1 ++ [some (.dct ks)]) ∧ mk σ' (h1 ++ [some (.dct ks)]) = .ok (kd x) (h1 ++ [some (.dct ks)]) ∧ mv σ' (h1 ++ [some (.dct ks)]) = .ok (val x) (h1 ++ [some (.dct ks)])) (hl : xs.length ≤ 400) :
    mDc true mi vs mg mt mk mv σ h = .ok (.ref h1.length) (h1 ++ [some (.dct (mergeKd [] (xs.map fun x => (key x, val x))))]) := by
  unfold mDc
  rw [hi, bindR_okS, dcN_eq is bigN 0 _ _ (by have := big3 (n := xs.length) (by omega); simp; omega), List.drop_zero, dcL_putA xs [] hs (by simp; omega), bindR_okS]
  rfl
theorem srt_dctR {K : List (Key × D)} {ks : List Str} {h : AH} {n : Nat} (hn : h[n]? = some (some (.dct K))) (e : K.map (·.1) = ks.map Sum.inr) (hl : ks.length < 64) : bSorted2 false [.ref n] h = .ok (.lst ((srtS ks).map D.str)) h := by
  have e1 : getL h (.ref n) = none := by simp only [getL, hn]
  have e2 : getK h (.ref n) = some K := by simp only [getK, hn]
  simp only [bSorted2, srt2, e1, e2, keysS_map e, okIf_d, hl, if_true, mkL_f]
theorem dedup_snoc (xs : List Str) (x : Str) : dedupL (xs ++ [x]) = addK (dedupL xs) x := by
  unfold dedupL
  rw [List.foldl_append]
  rfl
/-! dicts with names for keys, in an order -/
def nd (ns : List Str) (f : Str → D) : List (Key × D) := ns.map fun x => (.inr x, f x)
theorem merge_new {f : Str → D} : ∀ (ns pre : List Str), (pre ++ ns).Nodup → mergeKd (nd pre f) (nd ns f) = nd (pre ++ ns) f
  | [], pre, _ => by simp [nd, mergeKd]
  | x :: ns, pre, hn => by
    have hx : x ∉ pre := fun h => by
      have := (List.nodup_append.mp hn).2.2 x h x (by simp)
      exact this rfl
    have hp : putKd (nd pre f) (.inr x) (f x) = nd (pre ++ [x]) f := by
      have hm : ((nd pre f).any fun p => decide (p.1 = (.inr x : Key))) = false := by
        rw [List.any_eq_false]
        intro p hp
        obtain ⟨y, hy, rfl⟩ := List.mem_map.mp hp
        simp
        rintro rfl
        exact hx hy
      unfold putKd
      rw [if_neg (by rw [hm]; simp)]
      simp [nd]
    show mergeKd (putKd (nd pre f) (.inr x) (f x)) (nd ns f) = _
    rw [hp, merge_new ns (pre ++ [x]) (by simpa using hn)]
    simp
theorem merge_nd {f : Str → D} {ns : List Str} (hn : ns.Nodup) : mergeKd [] (nd ns f) = nd ns f := merge_new ns [] (by simpa using hn)
theorem nd_items (ns : List Str) (f : Str → D) (h : AH) : itmD (.ref h.length) (h ++ [some (.dct (nd ns f))]) = .ok (.lst (ns.map fun x => .tup [.str x, f x])) (h ++ [some (.dct (nd ns f))]) := by
  simp only [itmD, dctAt, get_end]
  simp [itemsL, nd, keyV]
end DV
end
section
set_option Elab.async false
set_option linter.all false
set_option maxRecDepth 100000
set_option maxHeartbeats 0
namespace K04
open PySem PySem.Spec PyProof.Rows L2 DV LamX
def top (i : Nat) : Stmt := PySem.Challenge.pw_auctionstack_k04_prices_that_fall.main.body.getD i (.Pass ⟨0, 0, 0, 0⟩)
def meth (i j : Nat) : Stmt := match top i with
  | .ClassDef _ _ _ b _ _ _ _ _ _ _ => b.getD j (.Pass ⟨0, 0, 0, 0⟩)
  | _ => .Pass ⟨0, 0, 0, 0⟩
def dF (i : Nat) (x : Str) (dfl : List He.Dv := []) : He.DefD := ⟨(x, none), x, x, defArgs (top i), defBody (top i), defScope (top i), dfl, []⟩
def dM (i j : Nat) (C x q : Str) (dfl : List He.Dv := []) : He.DefD := ⟨(C, some x), x, q, defArgs (meth i j), defBody (meth i j), defScope (meth i j), dfl, []⟩
def M : Md where
  fa := [.glo "fall_ends", .glo "gain_of", .glo "best_second", .glo "_law_dice", .glo "_law_roll", .glo "_law_rounds", .glo "_law_told", .glo "_law_plain", .glo "law", .glo "Fall", .cls "Fall", .mkr "Fall", .meth "Fall" "__init__", .meth "Fall" "price_at", .meth "Fall" "floor_from", .meth "Fall" "second_for", .meth "Fall" "left_now", .meth "Fall" "take_some", .meth "Fall" "paid_by", .meth "Fall" "whole_price", .meth "Fall" "at_last_price", .meth "Fall" "take_lines", .glo "AuctionFault", .exc "AuctionFault", .keep "AuctionFault", .glo "FallError", .exc "FallError", .keep "FallError", .exm "FallError" "FallError" true, .noat "Fall" "first", .noat "Fall" "fall", .noat "Fall" "seconds", .noat "Fall" "floor", .noat "Fall" "many", .noat "Fall" "takes", .noat "Fall" "now", .free "abs", .free "any", .free "dict", .free "enumerate", .free "int", .free "list", .free "max", .free "min", .free "range", .free "sorted", .free "str", .free "sum", .free "tuple", .free "zip"]
  fn := [dM 4 0 "Fall" "__init__" "Fall.__init__" [.int 1], dM 4 1 "Fall" "price_at" "Fall.price_at", dM 4 2 "Fall" "floor_from" "Fall.floor_from", dM 4 3 "Fall" "second_for" "Fall.second_for", dM 4 4 "Fall" "left_now" "Fall.left_now", dM 4 5 "Fall" "take_some" "Fall.take_some", dM 4 6 "Fall" "paid_by" "Fall.paid_by", dM 4 7 "Fall" "whole_price" "Fall.whole_price", dM 4 8 "Fall" "at_last_price" "Fall.at_last_price", dM 4 9 "Fall" "take_lines" "Fall.take_lines", dF 5 "fall_ends", dF 6 "gain_of", dF 7 "best_second", dF 9 "_law_dice", dF 10 "_law_roll", dF 11 "_law_rounds", dF 12 "_law_told", dF 13 "_law_plain", dF 14 "law"]
  tl := [(("Fall", some "left_now"), ("Fall.left_now" : Str) ++ ".<locals>." ++ "<genexpr>"), (("Fall", some "whole_price"), ("Fall.whole_price" : Str) ++ ".<locals>." ++ "<genexpr>"), (("Fall", some "at_last_price"), ("Fall.at_last_price" : Str) ++ ".<locals>." ++ "<genexpr>"), (("Fall", some "take_lines"), ("Fall.take_lines" : Str) ++ ".<locals>." ++ "<genexpr>"), (("fall_ends", none), ("fall_ends" : Str) ++ ".<locals>." ++ "<genexpr>"), (("best_second", none), ("best_second" : Str) ++ ".<locals>." ++ "<genexpr>"), (("_law_plain", none), ("_law_plain" : Str) ++ ".<locals>." ++ "<lambda>"), (("law", none), ("law" : Str) ++ ".<locals>." ++ "<lambda>")]
  cs := ["Fall"]
  xs := ["AuctionFault", "FallError"]
def m_fall_init : MS := sSeq (sIf (mOr (mNot (mTB (mChain dLe dLe (mC (.int 1)) (mVar 4) (mVar 1)))) (mTB (mOp dLt (mCB bMin3 (mCons (mVar 2) (mCons (mVar 3) (mCons (mVar 5) (mNil))))) (mC (.int 1))))) (sRaise 1) (sNext)) (sSeq (sFldP [0] "first" (mVar 0) (mVar 1)) (sSeq (sFldP [0] "fall" (mVar 0) (mVar 2)) (sSeq (sFldP [0] "seconds" (mVar 0) (mVar 3)) (sSeq (sFldP [0] "floor" (mVar 0) (mVar 4)) (sSeq (sFldP [0] "many" (mVar 0) (mVar 5)) (sSeq (sFldP [0] "takes" (mVar 0) (mLst true (mNil))) (sFldP [0] "now" (mVar 0) (mC (.int 0)))))))))
def f_fall_init : FM := runF ([Str.ofString "self", Str.ofString "first", Str.ofString "fall", Str.ofString "seconds", Str.ofString "floor", Str.ofString "many"] : List Str).length m_fall_init
theorem ok_fall_init {P : Program} {w : World} {K : PySem.W.Frag} {mg : Str → Option Value} {base h : Heap} (E : EV M w K mg base h) : Ok M P w K mg base 1 (dM 4 0 "Fall" "__init__" "Fall.__init__" [.int 1]) ["self", "first", "fall", "seconds", "floor", "many"] f_fall_init := by
  have t := M.ti K
  have q0 : ∀ c ∈ [0], AttrOk (M.g K).K ((M.g K).cls c) "now" := by
    intro c hc
    simp only [List.mem_cons, List.not_mem_nil, or_false] at hc
    rcases hc with rfl
    · exact ⟨E.cls 10, E.noat 35⟩
  have q1 : ∀ c ∈ [0], AttrOk (M.g K).K ((M.g K).cls c) "takes" := by
    intro c hc
    simp only [List.mem_cons, List.not_mem_nil, or_false] at hc
    rcases hc with rfl
    · exact ⟨E.cls 10, E.noat 34⟩
  have q2 : ∀ c ∈ [0], AttrOk (M.g K).K ((M.g K).cls c) "many" := by
    intro c hc
    simp only [List.mem_cons, List.not_mem_nil, or_false] at hc
    rcases hc with rfl
    · exact ⟨E.cls 10, E.noat 33⟩
  have q3 : ∀ c ∈ [0], AttrOk (M.g K).K ((M.g K).cls c) "floor" := by
    intro c hc
    simp only [List.mem_cons, List.not_mem_nil, or_false] at hc
    rcases hc with rfl
    · exact ⟨E.cls 10, E.noat 32⟩
  have q4 : ∀ c ∈ [0], AttrOk (M.g K).K ((M.g K).cls c) "seconds" := by
    intro c hc
    simp only [List.mem_cons, List.not_mem_nil, or_false] at hc
    rcases hc with rfl
    · exact ⟨E.cls 10, E.noat 31⟩
  have q5 : ∀ c ∈ [0], AttrOk (M.g K).K ((M.g K).cls c) "fall" := by
    intro c hc
    simp only [List.mem_cons, List.not_mem_nil, or_false] at hc
    rcases hc with rfl
    · exact ⟨E.cls 10, E.noat 30⟩
  have q6 : ∀ c ∈ [0], AttrOk (M.g K).K ((M.g K).cls c) "first" := by
    intro c hc
    simp only [List.mem_cons, List.not_mem_nil, or_false] at hc
    rcases hc with rfl
    · exact ⟨E.cls 10, E.noat 29⟩
  have q7 : mg "min" = none := E.free 43
  have q8 := E.exc 26 (x := "FallError")
  have q9 : mg "FallError" = some (.ref ((M.g K).exc 1)) := E.glo 25
  have S : FnScope [Str.ofString "self", Str.ofString "first", Str.ofString "fall", Str.ofString "seconds", Str.ofString "floor", Str.ofString "many"] ["self", "first", "fall", "seconds", "floor", "many"] (dM 4 0 "Fall" "__init__" "Fall.__init__" [.int 1]).scope := C8.fnScope_by (by kernel_rfl)
  have nd := S.nd
  unfold f_fall_init
  refine E.ok (d := dM 4 0 "Fall" "__init__" "Fall.__init__" [.int 1]) (N := [Str.ofString "self", Str.ofString "first", Str.ofString "fall", Str.ofString "seconds", Str.ofString "floor", Str.ofString "many"]) (ps := ["self", "first", "fall", "seconds", "floor", "many"]) (k := 0) (ms := m_fall_init) 0 (by kernel_rfl) S fun cdv A outer s H E' hcd hr tk po => ?_
  unfold m_fall_init
  exact (sm_cons (sm_if (em_pw (em_or (em_not (em_tchain op_le op_le ok_le ok_le em_int (em_var rfl (vis_by (by kernel_rfl))) (em_var rfl (vis_by (by kernel_rfl))) rfl)) (em_or1 (em_tcmp op_lt ok_lt (em_callB (call_min3Nu rfl) k_min3 rfl q7 boot_min (am_cons (em_var rfl (vis_by (by kernel_rfl))) (am_cons (em_var rfl (vis_by (by kernel_rfl))) (am_cons (em_var rfl (vis_by (by kernel_rfl))) am_nil)))) em_int rfl)))) (sm_one (sm_raise (ci := 1) rfl tk PySem.F.excBase_ValueError q8.1 q9 q8.2.1 (raises_own q8.2.2.1 q8.2.2.2) rfl)) sm_nil) (sm_cons (sm_fld [0] t rfl q6 (em_var rfl (vis_by (by kernel_rfl))) (em_var rfl (vis_by (by kernel_rfl)))) (sm_cons (sm_fld [0] t rfl q5 (em_var rfl (vis_by (by kernel_rfl))) (em_var rfl (vis_by (by kernel_rfl)))) (sm_cons (sm_fld [0] t rfl q4 (em_var rfl (vis_by (by kernel_rfl))) (em_var rfl (vis_by (by kernel_rfl)))) (sm_cons (sm_fld [0] t rfl q3 (em_var rfl (vis_by (by kernel_rfl))) (em_var rfl (vis_by (by kernel_rfl)))) (sm_cons (sm_fld [0] t rfl q2 (em_var rfl (vis_by (by kernel_rfl))) (em_var rfl (vis_by (by kernel_rfl)))) (sm_cons (sm_fld [0] t rfl q1 (em_var rfl (vis_by (by kernel_rfl))) (em_lst t true am_nil)) (sm_one (sm_fld [0] t rfl q0 (em_var rfl (vis_by (by kernel_rfl))) em_int)))))))))
def m_fall_price_at : MS := sSeq (sIf (mTB (mOp dLt (mVar 1) (mC (.int 0)))) (sRaise 1) (sNext)) (sRet (mCB bMax2 (mCons (mFld [0] "floor" (mVar 0)) (mCons (mOp (dMinus) (mFld [0] "first" (mVar 0)) (mOp (dMul false) (mOp (dDiv) (mVar 1) (mFld [0] "seconds" (mVar 0))) (mFld [0] "fall" (mVar 0)))) (mNil)))))
def f_fall_price_at : FM := runF ([Str.ofString "self", Str.ofString "now"] : List Str).length m_fall_price_at
theorem ok_fall_price_at {P : Program} {w : World} {K : PySem.W.Frag} {mg : Str → Option Value} {base h : Heap} (E : EV M w K mg base h) : Ok M P w K mg base 1 (dM 4 1 "Fall" "price_at" "Fall.price_at") ["self", "now"] f_fall_price_at := by
  have t := M.ti K
  have q0 : ∀ c ∈ [0], AttrOk (M.g K).K ((M.g K).cls c) "first" := by
    intro c hc
    simp only [List.mem_cons, List.not_mem_nil, or_false] at hc
    rcases hc with rfl
    · exact ⟨E.cls 10, E.noat 29⟩
  have q1 : ∀ c ∈ [0], AttrOk (M.g K).K ((M.g K).cls c) "seconds" := by
    intro c hc
    simp only [List.mem_cons, List.not_mem_nil, or_false] at hc
    rcases hc with rfl
    · exact ⟨E.cls 10, E.noat 31⟩
  have q2 : ∀ c ∈ [0], AttrOk (M.g K).K ((M.g K).cls c) "fall" := by
    intro c hc
    simp only [List.mem_cons, List.not_mem_nil, or_false] at hc
    rcases hc with rfl
    · exact ⟨E.cls 10, E.noat 30⟩
  have q3 : ∀ c ∈ [0], AttrOk (M.g K).K ((M.g K).cls c) "floor" := by
    intro c hc
    simp only [List.mem_cons, List.not_mem_nil, or_false] at hc
    rcases hc with rfl
    · exact ⟨E.cls 10, E.noat 32⟩
  have q4 : mg "max" = none := E.free 42
  have q5 := E.exc 26 (x := "FallError")
  have q6 : mg "FallError" = some (.ref ((M.g K).exc 1)) := E.glo 25
  have S : FnScope [Str.ofString "self", Str.ofString "now"] ["self", "now"] (dM 4 1 "Fall" "price_at" "Fall.price_at").scope := C8.fnScope_by (by kernel_rfl)
  have nd := S.nd
  unfold f_fall_price_at
  refine E.ok (d := dM 4 1 "Fall" "price_at" "Fall.price_at") (N := [Str.ofString "self", Str.ofString "now"]) (ps := ["self", "now"]) (k := 0) (ms := m_fall_price_at) 1 (by kernel_rfl) S fun cdv A outer s H E' hcd hr tk po => ?_
  unfold m_fall_price_at
  exact (sm_cons (sm_if (em_tcmp op_lt ok_lt (em_var rfl (vis_by (by kernel_rfl))) em_int rfl) (sm_one (sm_raise (ci := 1) rfl tk PySem.F.excBase_ValueError q5.1 q6 q5.2.1 (raises_own q5.2.2.1 q5.2.2.2) rfl)) sm_nil) (sm_one (sm_ret (em_callB (call_max2 rfl) k_max2 rfl q4 boot_max (am_cons (em_fld [0] rfl q3 (em_var rfl (vis_by (by kernel_rfl))) rfl) (am_cons (em_op op_sub ok_minus (em_fld [0] rfl q0 (em_var rfl (vis_by (by kernel_rfl))) rfl) (em_op op_times (ok_mul t false) (em_op op_fdiv ok_div (em_var rfl (vis_by (by kernel_rfl))) (em_fld [0] rfl q1 (em_var rfl (vis_by (by kernel_rfl))) rfl)) (em_fld [0] rfl q2 (em_var rfl (vis_by (by kernel_rfl))) rfl))) am_nil))))))
def m_fall_floor_from : MS := sRet (mOp (dMul false) (mOp (dDiv) (mOp (dMinus) (mOp (dPlus false) (mOp (dMinus) (mFld [0] "first" (mVar 0)) (mFld [0] "floor" (mVar 0))) (mFld [0] "fall" (mVar 0))) (mC (.int 1))) (mFld [0] "fall" (mVar 0))) (mFld [0] "seconds" (mVar 0)))
def f_fall_floor_from : FM := runF ([Str.ofString "self"] : List Str).length m_fall_floor_from
theorem ok_fall_floor_from {P : Program} {w : World} {K : PySem.W.Frag} {mg : Str → Option Value} {base h : Heap} (E : EV M w K mg base h) : Ok M P w K mg base 1 (dM 4 2 "Fall" "floor_from" "Fall.floor_from") ["self"] f_fall_floor_from := by
  have t := M.ti K
  have q0 : ∀ c ∈ [0], AttrOk (M.g K).K ((M.g K).cls c) "first" := by
    intro c hc
    simp only [List.mem_cons, List.not_mem_nil, or_false] at hc
    rcases hc with rfl
    · exact ⟨E.cls 10, E.noat 29⟩
  have q1 : ∀ c ∈ [0], AttrOk (M.g K).K ((M.g K).cls c) "floor" := by
    intro c hc
    simp only [List.mem_cons, List.not_mem_nil, or_false] at hc
    rcases hc with rfl
    · exact ⟨E.cls 10, E.noat 32⟩
  have q2 : ∀ c ∈ [0], AttrOk (M.g K).K ((M.g K).cls c) "fall" := by
    intro c hc
    simp only [List.mem_cons, List.not_mem_nil, or_false] at hc
    rcases hc with rfl
    · exact ⟨E.cls 10, E.noat 30⟩
  have q3 : ∀ c ∈ [0], AttrOk (M.g K).K ((M.g K).cls c) "seconds" := by
    intro c hc
    simp only [List.mem_cons, List.not_mem_nil, or_false] at hc
    rcases hc with rfl
    · exact ⟨E.cls 10, E.noat 31⟩
  have S : FnScope [Str.ofString "self"] ["self"] (dM 4 2 "Fall" "floor_from" "Fall.floor_from").scope := C8.fnScope_by (by kernel_rfl)
  have nd := S.nd
  unfold f_fall_floor_from
  refine E.ok (d := dM 4 2 "Fall" "floor_from" "Fall.floor_from") (N := [Str.ofString "self"]) (ps := ["self"]) (k := 0) (ms := m_fall_floor_from) 2 (by kernel_rfl) S fun cdv A outer s H E' hcd hr tk po => ?_
  unfold m_fall_floor_from
  exact (sm_one (sm_ret (em_op op_times (ok_mul t false) (em_op op_fdiv ok_div (em_op op_sub ok_minus (em_op op_plus (ok_plus t false) (em_op op_sub ok_minus (em_fld [0] rfl q0 (em_var rfl (vis_by (by kernel_rfl))) rfl) (em_fld [0] rfl q1 (em_var rfl (vis_by (by kernel_rfl))) rfl)) (em_fld [0] rfl q2 (em_var rfl (vis_by (by kernel_rfl))) rfl)) em_int) (em_fld [0] rfl q2 (em_var rfl (vis_by (by kernel_rfl))) rfl)) (em_fld [0] rfl q3 (em_var rfl (vis_by (by kernel_rfl))) rfl))))
def m_fall_second_for : MS := sSeq (sIf (mTB (mOp dLt (mVar 1) (mFld [0] "floor" (mVar 0)))) (sRet (mC .non)) (sNext)) (sRet (mOp (dMul false) (mCB bMax2 (mCons (mC (.int 0)) (mCons (mOp (dDiv) (mOp (dMinus) (mOp (dPlus false) (mOp (dMinus) (mFld [0] "first" (mVar 0)) (mVar 1)) (mFld [0] "fall" (mVar 0))) (mC (.int 1))) (mFld [0] "fall" (mVar 0))) (mNil)))) (mFld [0] "seconds" (mVar 0))))
def f_fall_second_for : FM := runF ([Str.ofString "self", Str.ofString "price"] : List Str).length m_fall_second_for
theorem ok_fall_second_for {P : Program} {w : World} {K : PySem.W.Frag} {mg : Str → Option Value} {base h : Heap} (E : EV M w K mg base h) : Ok M P w K mg base 1 (dM 4 3 "Fall" "second_for" "Fall.second_for") ["self", "price"] f_fall_second_for := by
  have t := M.ti K
  have q0 : ∀ c ∈ [0], AttrOk (M.g K).K ((M.g K).cls c) "first" := by
    intro c hc
    simp only [List.mem_cons, List.not_mem_nil, or_false] at hc
    rcases hc with rfl
    · exact ⟨E.cls 10, E.noat 29⟩
  have q1 : ∀ c ∈ [0], AttrOk (M.g K).K ((M.g K).cls c) "fall" := by
    intro c hc
    simp only [List.mem_cons, List.not_mem_nil, or_false] at hc
    rcases hc with rfl
    · exact ⟨E.cls 10, E.noat 30⟩
  have q2 : mg "max" = none := E.free 42
  have q3 : ∀ c ∈ [0], AttrOk (M.g K).K ((M.g K).cls c) "seconds" := by
    intro c hc
    simp only [List.mem_cons, List.not_mem_nil, or_false] at hc
    rcases hc with rfl
    · exact ⟨E.cls 10, E.noat 31⟩
  have q4 : ∀ c ∈ [0], AttrOk (M.g K).K ((M.g K).cls c) "floor" := by
    intro c hc
    simp only [List.mem_cons, List.not_mem_nil, or_false] at hc
    rcases hc with rfl
    · exact ⟨E.cls 10, E.noat 32⟩
  have S : FnScope [Str.ofString "self", Str.ofString "price"] ["self", "price"] (dM 4 3 "Fall" "second_for" "Fall.second_for").scope := C8.fnScope_by (by kernel_rfl)
  have nd := S.nd
  unfold f_fall_second_for
  refine E.ok (d := dM 4 3 "Fall" "second_for" "Fall.second_for") (N := [Str.ofString "self", Str.ofString "price"]) (ps := ["self", "price"]) (k := 0) (ms := m_fall_second_for) 3 (by kernel_rfl) S fun cdv A outer s H E' hcd hr tk po => ?_
  unfold m_fall_second_for
  exact (sm_cons (sm_if (em_tcmp op_lt ok_lt (em_var rfl (vis_by (by kernel_rfl))) (em_fld [0] rfl q4 (em_var rfl (vis_by (by kernel_rfl))) rfl) rfl) (sm_one (sm_ret em_non)) sm_nil) (sm_one (sm_ret (em_op op_times (ok_mul t false) (em_callB (call_max2 rfl) k_max2 rfl q2 boot_max (am_cons em_int (am_cons (em_op op_fdiv ok_div (em_op op_sub ok_minus (em_op op_plus (ok_plus t false) (em_op op_sub ok_minus (em_fld [0] rfl q0 (em_var rfl (vis_by (by kernel_rfl))) rfl) (em_var rfl (vis_by (by kernel_rfl)))) (em_fld [0] rfl q1 (em_var rfl (vis_by (by kernel_rfl))) rfl)) em_int) (em_fld [0] rfl q1 (em_var rfl (vis_by (by kernel_rfl))) rfl)) am_nil))) (em_fld [0] rfl q3 (em_var rfl (vis_by (by kernel_rfl))) rfl)))))
def m_fall_left_now : MS := sRet (mOp (dMinus) (mFld [0] "many" (mVar 0)) (mGx (miLT (mFld [0] "takes" (mVar 0))) [1] (gmName 1) (mYes) (mOp ixD (mVar 1) (mC (.int 2))) tkSum 0 fkI))
def f_fall_left_now : FM := runF ([Str.ofString "self", Str.ofString "row"] : List Str).length m_fall_left_now
theorem ok_fall_left_now {P : Program} {w : World} {K : PySem.W.Frag} {mg : Str → Option Value} {base h : Heap} (E : EV M w K mg base h) : Ok M P w K mg base 5 (dM 4 4 "Fall" "left_now" "Fall.left_now") ["self"] f_fall_left_now := by
  have t := M.ti K
  have q0 : ∀ c ∈ [0], AttrOk (M.g K).K ((M.g K).cls c) "many" := by
    intro c hc
    simp only [List.mem_cons, List.not_mem_nil, or_false] at hc
    rcases hc with rfl
    · exact ⟨E.cls 10, E.noat 33⟩
  have q1 : ∀ c ∈ [0], AttrOk (M.g K).K ((M.g K).cls c) "takes" := by
    intro c hc
    simp only [List.mem_cons, List.not_mem_nil, or_false] at hc
    rcases hc with rfl
    · exact ⟨E.cls 10, E.noat 34⟩
  obtain ⟨TB, hmT, huT⟩ := E.tab 0 (q := (("Fall", some "left_now"), ("Fall.left_now" : Str) ++ ".<locals>." ++ "<genexpr>")) rfl
  have q3 : mg "sum" = none := E.free 47
  have S : FnScope [Str.ofString "self", Str.ofString "row"] ["self"] (dM 4 4 "Fall" "left_now" "Fall.left_now").scope := C8.fnScope_by (by kernel_rfl)
  have nd := S.nd
  unfold f_fall_left_now
  refine E.ok (d := dM 4 4 "Fall" "left_now" "Fall.left_now") (N := [Str.ofString "self", Str.ofString "row"]) (ps := ["self"]) (k := 4) (ms := m_fall_left_now) 4 (by kernel_rfl) S fun cdv A outer s H E' hcd hr tk po => ?_
  unfold m_fall_left_now
  exact (sm_one (sm_ret (em_op op_sub ok_minus (em_fld [0] rfl q0 (em_var rfl (vis_by (by kernel_rfl))) rfl) (em_sumG (k := 0) (hr.mono (by decide)) rfl q3 boot_sum (gxp_of (k := 0) (g := M.g K) rfl hr.depth TB hcd hmT huT nd (blkOk_by (own := [("row", 1)]) (by kernel_rfl)) rfl (by decide) (by decide +kernel) rfl (by kernel_rfl) (im_LT rfl (em_fld [0] rfl q1 (em_var rfl (vis_by (by kernel_rfl))) rfl)) (fun _ _ _ _ _ _ _ => (gm_name nd rfl (loc_by (by kernel_rfl)) (by first | exact .inl rfl | exact .inr rfl))) (fun _ _ _ _ _ _ _ hg_ => ts_nil) (fun _ _ _ _ _ _ _ hg_ => (em_ixS rfl (em_var rfl (vis_by (by kernel_rfl))) em_int (fun _ _ => rfl))))))))
def m_fall_take_some : MS := sSeq (sIf (mOr (mTB (mOp dEq (mVar 1) (mC (.str "")))) (mOr (mNot (mTB (mChain dLe dLe (mC (.int 1)) (mVar 2) (mMeth 0 "left_now" (fun xs => f_fall_left_now (xs ++ [])) (mVar 0) mNil)))) (mTB (mOp dLt (mVar 3) (mFld [0] "now" (mVar 0)))))) (sRaise 1) (sNext)) (sSeq (sFldP [0] "now" (mVar 0) (mVar 3)) (sSeq (sAsg (mMeth 0 "price_at" (fun xs => f_fall_price_at (xs ++ [])) (mVar 0) (mCons (mVar 3) (mNil))) (gmName 4)) (sSeq (sExpr (mBM isLst mtAppend (mFld [0] "takes" (mVar 0)) (mCons (mTup (mCons (mVar 3) (mCons (mVar 1) (mCons (mVar 2) (mCons (mVar 4) (mNil)))))) (mNil)))) (sRet (mOp (dMul false) (mVar 2) (mVar 4))))))
def f_fall_take_some : FM := runF ([Str.ofString "self", Str.ofString "who", Str.ofString "many", Str.ofString "now", Str.ofString "price"] : List Str).length m_fall_take_some
theorem ok_fall_take_some {P : Program} {w : World} {K : PySem.W.Frag} {mg : Str → Option Value} {base h : Heap} (E : EV M w K mg base h) : Ok M P w K mg base 6 (dM 4 5 "Fall" "take_some" "Fall.take_some") ["self", "who", "many", "now"] f_fall_take_some := by
  have t := M.ti K
  have q0 : ∀ c ∈ [0], AttrOk (M.g K).K ((M.g K).cls c) "takes" := by
    intro c hc
    simp only [List.mem_cons, List.not_mem_nil, or_false] at hc
    rcases hc with rfl
    · exact ⟨E.cls 10, E.noat 34⟩
  obtain ⟨fd_fall_price_at, F_fall_price_at, q1⟩ := ok_fall_price_at E (P := P)
  have q2 : Binds K fd_fall_price_at ["self", "now"] [] := F_fall_price_at.bindsN fun _ _ _ _ _ _ us hl => match us, hl with | [_, _], _ => rfl
  have q3 : ∀ c ∈ [0], AttrOk (M.g K).K ((M.g K).cls c) "now" := by
    intro c hc
    simp only [List.mem_cons, List.not_mem_nil, or_false] at hc
    rcases hc with rfl
    · exact ⟨E.cls 10, E.noat 35⟩
  obtain ⟨fd_fall_left_now, F_fall_left_now, q4⟩ := ok_fall_left_now E (P := P)
  have q5 : Binds K fd_fall_left_now ["self"] [] := F_fall_left_now.bindsN fun _ _ _ _ _ _ us hl => match us, hl with | [_], _ => rfl
  have q6 := E.exc 26 (x := "FallError")
  have q7 : mg "FallError" = some (.ref ((M.g K).exc 1)) := E.glo 25
  have S : FnScope [Str.ofString "self", Str.ofString "who", Str.ofString "many", Str.ofString "now", Str.ofString "price"] ["self", "who", "many", "now"] (dM 4 5 "Fall" "take_some" "Fall.take_some").scope := C8.fnScope_by (by kernel_rfl)
  have nd := S.nd
  unfold f_fall_take_some
  refine E.ok (d := dM 4 5 "Fall" "take_some" "Fall.take_some") (N := [Str.ofString "self", Str.ofString "who", Str.ofString "many", Str.ofString "now", Str.ofString "price"]) (ps := ["self", "who", "many", "now"]) (k := 5) (ms := m_fall_take_some) 5 (by kernel_rfl) S fun cdv A outer s H E' hcd hr tk po => ?_
  unfold m_fall_take_some
  exact (sm_cons (sm_if (em_pw (em_or (em_tcmp (op_eqK rfl (hr.units)) ok_eq (em_var rfl (vis_by (by kernel_rfl))) em_str rfl) (em_or (em_not (em_tchain op_le op_le ok_le ok_le em_int (em_var rfl (vis_by (by kernel_rfl))) (em_meth0 (ci := 0) rfl tk (em_var rfl (vis_by (by kernel_rfl))) (E.cls 10) (E.meth 16) q4 (hr.mono (by decide)) q5 .nil (fun _ _ => by simp [VRs]) rfl) rfl)) (em_or1 (em_tcmp op_lt ok_lt (em_var rfl (vis_by (by kernel_rfl))) (em_fld [0] rfl q3 (em_var rfl (vis_by (by kernel_rfl))) rfl) rfl))))) (sm_one (sm_raise (ci := 1) rfl tk PySem.F.excBase_ValueError q6.1 q7 q6.2.1 (raises_own q6.2.2.1 q6.2.2.2) rfl)) sm_nil) (sm_cons (sm_fld [0] t rfl q3 (em_var rfl (vis_by (by kernel_rfl))) (em_var rfl (vis_by (by kernel_rfl)))) (sm_cons (sm_set nd rfl (loc_by (by kernel_rfl)) (em_meth (ci := 0) rfl tk (em_var rfl (vis_by (by kernel_rfl))) (E.cls 10) (E.meth 13) q1 (hr.mono (by decide)) q2 .nil (fun _ _ => by simp [VRs]) rfl (len_cons (fun _ _ _ _ => len_nil)) (am_cons (em_var rfl (vis_by (by kernel_rfl))) am_nil)) (.inl rfl)) (sm_cons (sm_expr (em_append t rfl (em_fld [0] rfl q0 (em_var rfl (vis_by (by kernel_rfl))) rfl) (am_cons (em_tup t (am_cons (em_var rfl (vis_by (by kernel_rfl))) (am_cons (em_var rfl (vis_by (by kernel_rfl))) (am_cons (em_var rfl (vis_by (by kernel_rfl))) (am_cons (em_var rfl (vis_by (by kernel_rfl))) am_nil))))) am_nil))) (sm_one (sm_ret (em_op op_times (ok_mul t false) (em_var rfl (vis_by (by kernel_rfl))) (em_var rfl (vis_by (by kernel_rfl))))))))))
def m_fall_paid_by : MS := sSeq (sAsg (mDNew true) (gmName 1)) (sSeq (sFor (miLT (mFld [0] "takes" (mVar 0))) (gmTup 4 (gmCons (gmName 2) (gmCons (gmName 3) (gmCons (gmName 4) (gmCons (gmName 5) (gmNil)))))) (sSeq (sAsg (mGet2 (mVar 1) (mVar 3) (mTup (mCons (mC (.int 0)) (mCons (mC (.int 0)) (mNil))))) (gmTup 2 (gmCons (gmName 6) (gmCons (gmName 7) (gmNil))))) (sAsg (mTup (mCons (mOp (dPlus false) (mVar 6) (mVar 4)) (mCons (mOp (dPlus false) (mVar 7) (mOp (dMul false) (mVar 4) (mVar 5))) (mNil)))) (gmSubD (mVar 1) (mVar 3))))) (sRet (mDc true (miLT (mCB (bSorted2 false) (mCons (mVar 1) (mNil)))) [3] (gmName 3) (mYes) (mVar 3) (mOp subD (mVar 1) (mVar 3)))))
def f_fall_paid_by : FM := runF ([Str.ofString "self", Str.ofString "found", Str.ofString "second", Str.ofString "who", Str.ofString "many", Str.ofString "price", Str.ofString "count", Str.ofString "whole"] : List Str).length m_fall_paid_by
theorem ok_fall_paid_by {P : Program} {w : World} {K : PySem.W.Frag} {mg : Str → Option Value} {base h : Heap} (E : EV M w K mg base h) : Ok M P w K mg base 1 (dM 4 6 "Fall" "paid_by" "Fall.paid_by") ["self"] f_fall_paid_by := by
  have t := M.ti K
  have q0 : mg "sorted" = none := E.free 45
  have q1 : ∀ c ∈ [0], AttrOk (M.g K).K ((M.g K).cls c) "takes" := by
    intro c hc
    simp only [List.mem_cons, List.not_mem_nil, or_false] at hc
    rcases hc with rfl
    · exact ⟨E.cls 10, E.noat 34⟩
  have S : FnScope [Str.ofString "self", Str.ofString "found", Str.ofString "second", Str.ofString "who", Str.ofString "many", Str.ofString "price", Str.ofString "count", Str.ofString "whole"] ["self"] (dM 4 6 "Fall" "paid_by" "Fall.paid_by").scope := C8.fnScope_by (by kernel_rfl)
  have nd := S.nd
  unfold f_fall_paid_by
  refine E.ok (d := dM 4 6 "Fall" "paid_by" "Fall.paid_by") (N := [Str.ofString "self", Str.ofString "found", Str.ofString "second", Str.ofString "who", Str.ofString "many", Str.ofString "price", Str.ofString "count", Str.ofString "whole"]) (ps := ["self"]) (k := 0) (ms := m_fall_paid_by) 6 (by kernel_rfl) S fun cdv A outer s H E' hcd hr tk po => ?_
  unfold m_fall_paid_by
  exact (sm_cons (sm_set nd rfl (loc_by (by kernel_rfl)) (em_dnew t true) (.inl rfl)) (sm_cons (sm_for po rfl (im_LT rfl (em_fld [0] rfl q1 (em_var rfl (vis_by (by kernel_rfl))) rfl)) (gm_tup (n := 4) rfl rfl (gm_cons (gm_name nd rfl (loc_by (by kernel_rfl)) (by first | exact .inl rfl | exact .inr rfl)) (gm_cons (gm_name nd rfl (loc_by (by kernel_rfl)) (by first | exact .inl rfl | exact .inr rfl)) (gm_cons (gm_name nd rfl (loc_by (by kernel_rfl)) (by first | exact .inl rfl | exact .inr rfl)) (gm_cons (gm_name nd rfl (loc_by (by kernel_rfl)) (by first | exact .inl rfl | exact .inr rfl)) gm_nil)))) rfl) (sm_cons (sm_asg (em_get2 (units1 hr) (em_var rfl (vis_by (by kernel_rfl))) (em_var rfl (vis_by (by kernel_rfl))) (em_tup t (am_cons em_int (am_cons em_int am_nil)))) (gm_tup (n := 2) rfl rfl (gm_cons (gm_name nd rfl (loc_by (by kernel_rfl)) (by first | exact .inl rfl | exact .inr rfl)) (gm_cons (gm_name nd rfl (loc_by (by kernel_rfl)) (by first | exact .inl rfl | exact .inr rfl)) gm_nil)) rfl)) (sm_one (sm_asg (em_tup t (am_cons (em_op op_plus (ok_plus t false) (em_var rfl (vis_by (by kernel_rfl))) (em_var rfl (vis_by (by kernel_rfl)))) (am_cons (em_op op_plus (ok_plus t false) (em_var rfl (vis_by (by kernel_rfl))) (em_op op_times (ok_mul t false) (em_var rfl (vis_by (by kernel_rfl))) (em_var rfl (vis_by (by kernel_rfl))))) am_nil))) (gm_subD t (units1 hr) (em_var rfl (vis_by (by kernel_rfl))) (em_var rfl (vis_by (by kernel_rfl)))))))) (sm_one (sm_ret (em_dc t true rfl nd (im_LT rfl (em_callB (c_sorted2 rfl rfl) (k_sorted2 t false) rfl q0 boot_sorted (am_cons (em_var rfl (vis_by (by kernel_rfl))) am_nil))) (blkOk_by (own := [("who", 3)]) (by kernel_rfl)) rfl (by decide) (fun _ _ _ _ _ => (gm_name nd rfl (loc_by (by kernel_rfl)) (by first | exact .inl rfl | exact .inr rfl))) (fun _ _ _ _ _ => ts_nil) (fun _ _ _ _ _ => (em_var rfl (vis_by (by kernel_rfl)))) (fun _ _ _ _ _ => (em_sub rfl (units1 hr) (em_var rfl (vis_by (by kernel_rfl))) (em_var rfl (vis_by (by kernel_rfl))) (fun _ _ => rfl))))))))
def m_fall_whole_price : MS := sRet (mGx (miLT (mFld [0] "takes" (mVar 0))) [1, 2, 3, 4] (gmTup 4 (gmCons (gmName 1) (gmCons (gmName 2) (gmCons (gmName 3) (gmCons (gmName 4) (gmNil)))))) (mYes) (mOp (dMul false) (mVar 3) (mVar 4)) tkSum 0 fkI)
def f_fall_whole_price : FM := runF ([Str.ofString "self", Str.ofString "second", Str.ofString "who", Str.ofString "many", Str.ofString "price"] : List Str).length m_fall_whole_price
theorem ok_fall_whole_price {P : Program} {w : World} {K : PySem.W.Frag} {mg : Str → Option Value} {base h : Heap} (E : EV M w K mg base h) : Ok M P w K mg base 5 (dM 4 7 "Fall" "whole_price" "Fall.whole_price") ["self"] f_fall_whole_price := by
  have t := M.ti K
  have q0 : ∀ c ∈ [0], AttrOk (M.g K).K ((M.g K).cls c) "takes" := by
    intro c hc
    simp only [List.mem_cons, List.not_mem_nil, or_false] at hc
    rcases hc with rfl
    · exact ⟨E.cls 10, E.noat 34⟩
  obtain ⟨TB, hmT, huT⟩ := E.tab 1 (q := (("Fall", some "whole_price"), ("Fall.whole_price" : Str) ++ ".<locals>." ++ "<genexpr>")) rfl
  have q2 : mg "sum" = none := E.free 47
  have S : FnScope [Str.ofString "self", Str.ofString "second", Str.ofString "who", Str.ofString "many", Str.ofString "price"] ["self"] (dM 4 7 "Fall" "whole_price" "Fall.whole_price").scope := C8.fnScope_by (by kernel_rfl)
  have nd := S.nd
  unfold f_fall_whole_price
  refine E.ok (d := dM 4 7 "Fall" "whole_price" "Fall.whole_price") (N := [Str.ofString "self", Str.ofString "second", Str.ofString "who", Str.ofString "many", Str.ofString "price"]) (ps := ["self"]) (k := 4) (ms := m_fall_whole_price) 7 (by kernel_rfl) S fun cdv A outer s H E' hcd hr tk po => ?_
  unfold m_fall_whole_price
  exact (sm_one (sm_ret (em_sumG (k := 0) (hr.mono (by decide)) rfl q2 boot_sum (gxp_of (k := 0) (g := M.g K) rfl hr.depth TB hcd hmT huT nd (blkOk_by (own := [("second", 1), ("who", 2), ("many", 3), ("price", 4)]) (by kernel_rfl)) rfl (by decide) (by decide +kernel) rfl (by kernel_rfl) (im_LT rfl (em_fld [0] rfl q0 (em_var rfl (vis_by (by kernel_rfl))) rfl)) (fun _ _ _ _ _ _ _ => (gm_tup (n := 4) rfl rfl (gm_cons (gm_name nd rfl (loc_by (by kernel_rfl)) (by first | exact .inl rfl | exact .inr rfl)) (gm_cons (gm_name nd rfl (loc_by (by kernel_rfl)) (by first | exact .inl rfl | exact .inr rfl)) (gm_cons (gm_name nd rfl (loc_by (by kernel_rfl)) (by first | exact .inl rfl | exact .inr rfl)) (gm_cons (gm_name nd rfl (loc_by (by kernel_rfl)) (by first | exact .inl rfl | exact .inr rfl)) gm_nil)))) rfl)) (fun _ _ _ _ _ _ _ hg_ => ts_nil) (fun _ _ _ _ _ _ _ hg_ => (em_op op_times (ok_mul t false) (em_var rfl (vis_by (by kernel_rfl))) (em_var rfl (vis_by (by kernel_rfl)))))))))
def m_fall_at_last_price : MS := sRet (mIf (mTB (mOp dNe (mFld [0] "takes" (mVar 0)) (mLst false (mNil)))) (mOp (dMul false) (mGx (miLT (mFld [0] "takes" (mVar 0))) [1] (gmName 1) (mYes) (mOp ixD (mVar 1) (mC (.int 2))) tkSum 0 fkI) (mOp ixD (mOp ixD (mFld [0] "takes" (mVar 0)) (mNeg (mC (.int 1)))) (mC (.int 3)))) (mC (.int 0)))
def f_fall_at_last_price : FM := runF ([Str.ofString "self", Str.ofString "row"] : List Str).length m_fall_at_last_price
theorem ok_fall_at_last_price {P : Program} {w : World} {K : PySem.W.Frag} {mg : Str → Option Value} {base h : Heap} (E : EV M w K mg base h) : Ok M P w K mg base 5 (dM 4 8 "Fall" "at_last_price" "Fall.at_last_price") ["self"] f_fall_at_last_price := by
  have t := M.ti K
  have q0 : ∀ c ∈ [0], AttrOk (M.g K).K ((M.g K).cls c) "takes" := by
    intro c hc
    simp only [List.mem_cons, List.not_mem_nil, or_false] at hc
    rcases hc with rfl
    · exact ⟨E.cls 10, E.noat 34⟩
  obtain ⟨TB, hmT, huT⟩ := E.tab 2 (q := (("Fall", some "at_last_price"), ("Fall.at_last_price" : Str) ++ ".<locals>." ++ "<genexpr>")) rfl
  have q2 : mg "sum" = none := E.free 47
  have S : FnScope [Str.ofString "self", Str.ofString "row"] ["self"] (dM 4 8 "Fall" "at_last_price" "Fall.at_last_price").scope := C8.fnScope_by (by kernel_rfl)
  have nd := S.nd
  unfold f_fall_at_last_price
  refine E.ok (d := dM 4 8 "Fall" "at_last_price" "Fall.at_last_price") (N := [Str.ofString "self", Str.ofString "row"]) (ps := ["self"]) (k := 4) (ms := m_fall_at_last_price) 8 (by kernel_rfl) S fun cdv A outer s H E' hcd hr tk po => ?_
  unfold m_fall_at_last_price
  exact (sm_one (sm_ret (em_ifE (em_tcmp (op_neK rfl (hr.units)) ok_ne (em_fld [0] rfl q0 (em_var rfl (vis_by (by kernel_rfl))) rfl) (em_lst t false am_nil) rfl) (em_op op_times (ok_mul t false) (em_sumG (k := 0) (hr.mono (by decide)) rfl q2 boot_sum (gxp_of (k := 0) (g := M.g K) rfl hr.depth TB hcd hmT huT nd (blkOk_by (own := [("row", 1)]) (by kernel_rfl)) rfl (by decide) (by decide +kernel) rfl (by kernel_rfl) (im_LT rfl (em_fld [0] rfl q0 (em_var rfl (vis_by (by kernel_rfl))) rfl)) (fun _ _ _ _ _ _ _ => (gm_name nd rfl (loc_by (by kernel_rfl)) (by first | exact .inl rfl | exact .inr rfl))) (fun _ _ _ _ _ _ _ hg_ => ts_nil) (fun _ _ _ _ _ _ _ hg_ => (em_ixS rfl (em_var rfl (vis_by (by kernel_rfl))) em_int (fun _ _ => rfl))))) (em_ixS rfl (em_ixS rfl (em_fld [0] rfl q0 (em_var rfl (vis_by (by kernel_rfl))) rfl) (em_neg em_int) (fun _ _ => rfl)) em_int (fun _ _ => rfl))) em_int)))
def m_fall_take_lines : MS := sRet (mGx (miLT (mFld [0] "takes" (mVar 0))) [1, 2, 3, 4] (gmTup 4 (gmCons (gmName 1) (gmCons (gmName 2) (gmCons (gmName 3) (gmCons (gmName 4) (gmNil)))))) (mYes) (mOp (dPlus false) (mOp (dPlus false) (mFS [mFmt (mVar 1), mC (.str " ")]) (mVar 2)) (mFS [mC (.str " "), mFmt (mVar 3), mC (.str " "), mFmt (mVar 4)])) tkCol [] fkT)
def f_fall_take_lines : FM := runF ([Str.ofString "self", Str.ofString "second", Str.ofString "who", Str.ofString "many", Str.ofString "price"] : List Str).length m_fall_take_lines
theorem ok_fall_take_lines {P : Program} {w : World} {K : PySem.W.Frag} {mg : Str → Option Value} {base h : Heap} (E : EV M w K mg base h) : Ok M P w K mg base 7 (dM 4 9 "Fall" "take_lines" "Fall.take_lines") ["self"] f_fall_take_lines := by
  have t := M.ti K
  have q0 : ∀ c ∈ [0], AttrOk (M.g K).K ((M.g K).cls c) "takes" := by
    intro c hc
    simp only [List.mem_cons, List.not_mem_nil, or_false] at hc
    rcases hc with rfl
    · exact ⟨E.cls 10, E.noat 34⟩
  obtain ⟨TB, hmT, huT⟩ := E.tab 3 (q := (("Fall", some "take_lines"), ("Fall.take_lines" : Str) ++ ".<locals>." ++ "<genexpr>")) rfl
  have q2 : mg "tuple" = none := E.free 48
  have S : FnScope [Str.ofString "self", Str.ofString "second", Str.ofString "who", Str.ofString "many", Str.ofString "price"] ["self"] (dM 4 9 "Fall" "take_lines" "Fall.take_lines").scope := C8.fnScope_by (by kernel_rfl)
  have nd := S.nd
  unfold f_fall_take_lines
  refine E.ok (d := dM 4 9 "Fall" "take_lines" "Fall.take_lines") (N := [Str.ofString "self", Str.ofString "second", Str.ofString "who", Str.ofString "many", Str.ofString "price"]) (ps := ["self"]) (k := 6) (ms := m_fall_take_lines) 9 (by kernel_rfl) S fun cdv A outer s H E' hcd hr tk po => ?_
  unfold m_fall_take_lines
  exact (sm_one (sm_ret (em_tupG (k := 0) (hr.mono (by decide)) rfl q2 boot_tuple t (gxp_of (k := 0) (g := M.g K) rfl hr.depth TB hcd hmT huT nd (blkOk_by (own := [("second", 1), ("who", 2), ("many", 3), ("price", 4)]) (by kernel_rfl)) rfl (by decide) (by decide +kernel) rfl (by kernel_rfl) (im_LT rfl (em_fld [0] rfl q0 (em_var rfl (vis_by (by kernel_rfl))) rfl)) (fun _ _ _ _ _ _ _ => (gm_tup (n := 4) rfl rfl (gm_cons (gm_name nd rfl (loc_by (by kernel_rfl)) (by first | exact .inl rfl | exact .inr rfl)) (gm_cons (gm_name nd rfl (loc_by (by kernel_rfl)) (by first | exact .inl rfl | exact .inr rfl)) (gm_cons (gm_name nd rfl (loc_by (by kernel_rfl)) (by first | exact .inl rfl | exact .inr rfl)) (gm_cons (gm_name nd rfl (loc_by (by kernel_rfl)) (by first | exact .inl rfl | exact .inr rfl)) gm_nil)))) rfl)) (fun _ _ _ _ _ _ _ hg_ => ts_nil) (fun _ _ _ _ _ _ _ hg_ => (em_op op_plus (ok_plus t false) (em_op op_plus (ok_plus t false) (em_fs (PJM.cons (em_fmt (em_var rfl (vis_by (by kernel_rfl)))) (PJM.cons em_str PJM.nil))) (em_var rfl (vis_by (by kernel_rfl)))) (em_fs (PJM.cons em_str (PJM.cons (em_fmt (em_var rfl (vis_by (by kernel_rfl)))) (PJM.cons em_str (PJM.cons (em_fmt (em_var rfl (vis_by (by kernel_rfl)))) PJM.nil)))))))))))
def m_fall_ends : MS := sSeq (sIf (mTru (mGx (miLT (mVar 1)) [4, 5, 6] (gmTup 3 (gmCons (gmName 4) (gmCons (gmName 5) (gmCons (gmName 6) (gmNil))))) (mYes) (mOrV (mOp dEq (mVar 4) (mC (.str ""))) (mOp dLt (mVar 5) (mC (.int 1)))) tkAny false fkB)) (sRaise 1) (sNext)) (sSeq (sAsg (mLst true (mNil)) (gmName 2)) (sSeq (sFor (miEnum (mCons (mVar 1) (mNil))) (gmTup 2 (gmCons (gmName 3) (gmCons (gmTup 3 (gmCons (gmName 4) (gmCons (gmName 5) (gmCons (gmName 6) (gmNil))))) (gmNil)))) (sSeq (sAsg (mMeth 0 "second_for" (fun xs => f_fall_second_for (xs ++ [])) (mVar 0) (mCons (mVar 6) (mNil))) (gmName 7)) (sAug dIAdd 2 (mIf (mTB (mOp dNotN (mVar 7) (mC .non))) (mLst false (mCons (mTup (mCons (mVar 7) (mCons (mVar 3) (mNil)))) (mNil))) (mLst false (mNil)))))) (sSeq (sPar [8, 9] (mCons (mLst true (mNil)) (mCons (mFld [0] "many" (mVar 0)) (mNil)))) (sSeq (sFor (miLT (mCB (bSorted2 false) (mCons (mVar 2) (mNil)))) (gmTup 2 (gmCons (gmName 7) (gmCons (gmName 3) (gmNil)))) (sSeq (sAsg (mCB bMin2 (mCons (mVar 9) (mCons (mOp ixD (mOp ixD (mVar 1) (mVar 3)) (mC (.int 1))) (mNil)))) (gmName 5)) (sIf (mTB (mOp dGt (mVar 5) (mC (.int 0)))) (sSeq (sExpr (mBM isLst mtAppend (mVar 8) (mCons (mTup (mCons (mVar 7) (mCons (mOp ixD (mOp ixD (mVar 1) (mVar 3)) (mC (.int 0))) (mCons (mVar 5) (mCons (mMeth 0 "price_at" (fun xs => f_fall_price_at (xs ++ [])) (mVar 0) (mCons (mVar 7) (mNil))) (mNil)))))) (mNil)))) (sAug dMinus 9 (mVar 5))) (sNext)))) (sRet (mCB bTuple (mCons (mVar 8) (mNil))))))))
def f_fall_ends : FM := runF ([Str.ofString "fall", Str.ofString "wishes", Str.ofString "rows", Str.ofString "place", Str.ofString "who", Str.ofString "many", Str.ofString "most", Str.ofString "second", Str.ofString "found", Str.ofString "left"] : List Str).length m_fall_ends
theorem ok_fall_ends {P : Program} {w : World} {K : PySem.W.Frag} {mg : Str → Option Value} {base h : Heap} (E : EV M w K mg base h) : Ok M P w K mg base 5 (dF 5 "fall_ends") ["fall", "wishes"] f_fall_ends := by
  have t := M.ti K
  have q0 : mg "tuple" = none := E.free 48
  have q1 : mg "sorted" = none := E.free 45
  obtain ⟨fd_fall_price_at, F_fall_price_at, q2⟩ := ok_fall_price_at E (P := P)
  have q3 : Binds K fd_fall_price_at ["self", "now"] [] := F_fall_price_at.bindsN fun _ _ _ _ _ _ us hl => match us, hl with | [_, _], _ => rfl
  have q4 : mg "min" = none := E.free 43
  have q5 : ∀ c ∈ [0], AttrOk (M.g K).K ((M.g K).cls c) "many" := by
    intro c hc
    simp only [List.mem_cons, List.not_mem_nil, or_false] at hc
    rcases hc with rfl
    · exact ⟨E.cls 10, E.noat 33⟩
  have q6 : mg "enumerate" = none := E.free 39
  obtain ⟨fd_fall_second_for, F_fall_second_for, q7⟩ := ok_fall_second_for E (P := P)
  have q8 : Binds K fd_fall_second_for ["self", "price"] [] := F_fall_second_for.bindsN fun _ _ _ _ _ _ us hl => match us, hl with | [_, _], _ => rfl
  obtain ⟨TB, hmT, huT⟩ := E.tab 4 (q := (("fall_ends", none), ("fall_ends" : Str) ++ ".<locals>." ++ "<genexpr>")) rfl
  have q10 : mg "any" = none := E.free 37
  have q11 := E.exc 26 (x := "FallError")
  have q12 : mg "FallError" = some (.ref ((M.g K).exc 1)) := E.glo 25
  have S : FnScope [Str.ofString "fall", Str.ofString "wishes", Str.ofString "rows", Str.ofString "place", Str.ofString "who", Str.ofString "many", Str.ofString "most", Str.ofString "second", Str.ofString "found", Str.ofString "left"] ["fall", "wishes"] (dF 5 "fall_ends").scope := C8.fnScope_by (by kernel_rfl)
  have nd := S.nd
  unfold f_fall_ends
  refine E.ok (d := dF 5 "fall_ends") (N := [Str.ofString "fall", Str.ofString "wishes", Str.ofString "rows", Str.ofString "place", Str.ofString "who", Str.ofString "many", Str.ofString "most", Str.ofString "second", Str.ofString "found", Str.ofString "left"]) (ps := ["fall", "wishes"]) (k := 4) (ms := m_fall_ends) 10 (by kernel_rfl) S fun cdv A outer s H E' hcd hr tk po => ?_
  unfold m_fall_ends
  exact (sm_cons (sm_if (em_tru rfl (em_any (k := 0) (hr.mono (by decide)) rfl q10 (gxp_of (k := 0) (g := M.g K) rfl hr.depth TB hcd hmT huT nd (blkOk_by (own := [("who", 4), ("many", 5), ("most", 6)]) (by kernel_rfl)) rfl (by decide) (by decide +kernel) rfl (by kernel_rfl) (im_LT rfl (em_var rfl (vis_by (by kernel_rfl)))) (fun _ _ _ _ _ _ _ => (gm_tup (n := 3) rfl rfl (gm_cons (gm_name nd rfl (loc_by (by kernel_rfl)) (by first | exact .inl rfl | exact .inr rfl)) (gm_cons (gm_name nd rfl (loc_by (by kernel_rfl)) (by first | exact .inl rfl | exact .inr rfl)) (gm_cons (gm_name nd rfl (loc_by (by kernel_rfl)) (by first | exact .inl rfl | exact .inr rfl)) gm_nil))) rfl)) (fun _ _ _ _ _ _ _ hg_ => ts_nil) (fun _ _ _ _ _ _ _ hg_ => (em_orV rfl (em_cmp (op_eqK rfl (hg_.units)) ok_eq (em_var rfl (vis_by (by kernel_rfl))) em_str rfl) (em_oneV (em_cmp op_lt ok_lt (em_var rfl (vis_by (by kernel_rfl))) em_int rfl)))))) (fun _ => rfl)) (sm_one (sm_raise (ci := 1) rfl tk PySem.F.excBase_ValueError q11.1 q12 q11.2.1 (raises_own q11.2.2.1 q11.2.2.2) rfl)) sm_nil) (sm_cons (sm_set nd rfl (loc_by (by kernel_rfl)) (em_lst t true am_nil) (.inl rfl)) (sm_cons (sm_for po rfl (im_enum t rfl rfl q6 (am_cons (em_var rfl (vis_by (by kernel_rfl))) am_nil)) (gm_tup (n := 2) rfl rfl (gm_cons (gm_name nd rfl (loc_by (by kernel_rfl)) (by first | exact .inl rfl | exact .inr rfl)) (gm_cons (gm_tup (n := 3) rfl rfl (gm_cons (gm_name nd rfl (loc_by (by kernel_rfl)) (by first | exact .inl rfl | exact .inr rfl)) (gm_cons (gm_name nd rfl (loc_by (by kernel_rfl)) (by first | exact .inl rfl | exact .inr rfl)) (gm_cons (gm_name nd rfl (loc_by (by kernel_rfl)) (by first | exact .inl rfl | exact .inr rfl)) gm_nil))) rfl) gm_nil)) rfl) (sm_cons (sm_set nd rfl (loc_by (by kernel_rfl)) (em_meth (ci := 0) rfl tk (em_var rfl (vis_by (by kernel_rfl))) (E.cls 10) (E.meth 15) q7 (hr.mono (by decide)) q8 .nil (fun _ _ => by simp [VRs]) rfl (len_cons (fun _ _ _ _ => len_nil)) (am_cons (em_var rfl (vis_by (by kernel_rfl))) am_nil)) (.inl rfl)) (sm_one (sm_aug nd rfl (loc_by (by kernel_rfl)) (em_ifE (em_tcmp op_notN ok_notN (em_var rfl (vis_by (by kernel_rfl))) em_non rfl) (em_lst t false (am_cons (em_tup t (am_cons (em_var rfl (vis_by (by kernel_rfl))) (am_cons (em_var rfl (vis_by (by kernel_rfl))) am_nil))) am_nil)) (em_lst t false am_nil)) op_iadd (ok_iadd t) (.inl rfl))))) (sm_cons (sm_par rfl nd rfl rfl (by decide) rfl rfl (am_cons (em_lst t true am_nil) (am_cons (em_fld [0] rfl q5 (em_var rfl (vis_by (by kernel_rfl))) rfl) am_nil)) rfl) (sm_cons (sm_for po rfl (im_LT rfl (em_callB (c_sorted2 rfl rfl) (k_sorted2 t false) rfl q1 boot_sorted (am_cons (em_var rfl (vis_by (by kernel_rfl))) am_nil))) (gm_tup (n := 2) rfl rfl (gm_cons (gm_name nd rfl (loc_by (by kernel_rfl)) (by first | exact .inl rfl | exact .inr rfl)) (gm_cons (gm_name nd rfl (loc_by (by kernel_rfl)) (by first | exact .inl rfl | exact .inr rfl)) gm_nil)) rfl) (sm_cons (sm_set nd rfl (loc_by (by kernel_rfl)) (em_callB (call_min2 rfl) k_min2 rfl q4 boot_min (am_cons (em_var rfl (vis_by (by kernel_rfl))) (am_cons (em_ixS rfl (em_ixS rfl (em_var rfl (vis_by (by kernel_rfl))) (em_var rfl (vis_by (by kernel_rfl))) (fun _ _ => rfl)) em_int (fun _ _ => rfl)) am_nil))) (.inl rfl)) (sm_one (sm_if (em_tcmp op_gt ok_gt (em_var rfl (vis_by (by kernel_rfl))) em_int rfl) (sm_cons (sm_expr (em_append t rfl (em_var rfl (vis_by (by kernel_rfl))) (am_cons (em_tup t (am_cons (em_var rfl (vis_by (by kernel_rfl))) (am_cons (em_ixS rfl (em_ixS rfl (em_var rfl (vis_by (by kernel_rfl))) (em_var rfl (vis_by (by kernel_rfl))) (fun _ _ => rfl)) em_int (fun _ _ => rfl)) (am_cons (em_var rfl (vis_by (by kernel_rfl))) (am_cons (em_meth (ci := 0) rfl tk (em_var rfl (vis_by (by kernel_rfl))) (E.cls 10) (E.meth 13) q2 (hr.mono (by decide)) q3 .nil (fun _ _ => by simp [VRs]) rfl (len_cons (fun _ _ _ _ => len_nil)) (am_cons (em_var rfl (vis_by (by kernel_rfl))) am_nil)) am_nil))))) am_nil))) (sm_one (sm_aug nd rfl (loc_by (by kernel_rfl)) (em_var rfl (vis_by (by kernel_rfl))) iop_sub ok_minus (.inl rfl)))) sm_nil)))) (sm_one (sm_ret (em_callTy (c_tuple rfl) (k_tuple t) rfl q0 boot_tuple (am_cons (em_var rfl (vis_by (by kernel_rfl))) am_nil)))))))))
def m_gain_of : MS := sRet (mOp (dMul false) (mOp ixD (mVar 1) (mC (.int 1))) (mOp (dMinus) (mOp ixD (mVar 1) (mC (.int 2))) (mMeth 0 "price_at" (fun xs => f_fall_price_at (xs ++ [])) (mVar 0) (mCons (mVar 2) (mNil)))))
def f_gain_of : FM := runF ([Str.ofString "fall", Str.ofString "wish", Str.ofString "second"] : List Str).length m_gain_of
theorem ok_gain_of {P : Program} {w : World} {K : PySem.W.Frag} {mg : Str → Option Value} {base h : Heap} (E : EV M w K mg base h) : Ok M P w K mg base 2 (dF 6 "gain_of") ["fall", "wish", "second"] f_gain_of := by
  have t := M.ti K
  obtain ⟨fd_fall_price_at, F_fall_price_at, q0⟩ := ok_fall_price_at E (P := P)
  have q1 : Binds K fd_fall_price_at ["self", "now"] [] := F_fall_price_at.bindsN fun _ _ _ _ _ _ us hl => match us, hl with | [_, _], _ => rfl
  have S : FnScope [Str.ofString "fall", Str.ofString "wish", Str.ofString "second"] ["fall", "wish", "second"] (dF 6 "gain_of").scope := C8.fnScope_by (by kernel_rfl)
  have nd := S.nd
  unfold f_gain_of
  refine E.ok (d := dF 6 "gain_of") (N := [Str.ofString "fall", Str.ofString "wish", Str.ofString "second"]) (ps := ["fall", "wish", "second"]) (k := 1) (ms := m_gain_of) 11 (by kernel_rfl) S fun cdv A outer s H E' hcd hr tk po => ?_
  unfold m_gain_of
  exact (sm_one (sm_ret (em_op op_times (ok_mul t false) (em_ixS rfl (em_var rfl (vis_by (by kernel_rfl))) em_int (fun _ _ => rfl)) (em_op op_sub ok_minus (em_ixS rfl (em_var rfl (vis_by (by kernel_rfl))) em_int (fun _ _ => rfl)) (em_meth (ci := 0) rfl tk (em_var rfl (vis_by (by kernel_rfl))) (E.cls 10) (E.meth 13) q0 (hr.mono (by decide)) q1 .nil (fun _ _ => by simp [VRs]) rfl (len_cons (fun _ _ _ _ => len_nil)) (am_cons (em_var rfl (vis_by (by kernel_rfl))) am_nil))))))
def m_best_second : MS := sSeq (sIf (mTru (mGx (miZip2 (mCons (mVar 2) (mCons (mSl false (mVar 2) (mPS (mC (.int 1))) (mPN)) (mNil)))) [7, 8] (gmTup 2 (gmCons (gmName 7) (gmCons (gmName 8) (gmNil)))) (mYes) (mOp dLe (mOp ixD (mVar 8) (mC (.int 0))) (mOp ixD (mVar 7) (mC (.int 0)))) tkAny false fkB)) (sRaise 1) (sNext)) (sSeq (sIf (mTru (mGx (miLT (mVar 2)) [9, 5] (gmTup 2 (gmCons (gmName 9) (gmCons (gmName 5) (gmNil)))) (mYes) (mNotV (mChain dLe dLe (mC (.int 0)) (mVar 5) (mC (.int 1000)))) tkAny false fkB)) (sRaise 1) (sNext)) (sSeq (sAsg (mTup (mCons (mMeth 0 "second_for" (fun xs => f_fall_second_for (xs ++ [])) (mVar 0) (mCons (mVar 1) (mNil))) (mCons (mC .non) (mNil)))) (gmTup 2 (gmCons (gmName 3) (gmCons (gmName 4) (gmNil))))) (sSeq (sWhile (mTB (mOp dNotN (mVar 3) (mC .non))) (sSeq (sAsg (mOp ixD (mOp (dPlus false) (mLst false (mCons (mC (.int 1000)) (mNil))) (mLc false (miLT (mVar 2)) [9, 10] (gmTup 2 (gmCons (gmName 9) (gmCons (gmName 10) (gmNil)))) (mTB (mOp dLe (mVar 9) (mVar 3))) (mVar 10))) (mNeg (mC (.int 1)))) (gmName 5)) (sSeq (sAsg (mOp (dMul false) (mVar 5) (mOp (dMinus) (mVar 1) (mMeth 0 "price_at" (fun xs => f_fall_price_at (xs ++ [])) (mVar 0) (mCons (mVar 3) (mNil))))) (gmName 6)) (sSeq (sAsg (mIf (mOr (mTB (mOp dIsN (mVar 4) (mC .non))) (mTB (mOp dGt (mVar 6) (mOp ixD (mVar 4) (mC (.int 0)))))) (mTup (mCons (mVar 6) (mCons (mVar 3) (mNil)))) (mVar 4)) (gmName 4)) (sAsg (mIf (mTB (mOp dLt (mVar 3) (mMeth 0 "floor_from" (fun xs => f_fall_floor_from (xs ++ [])) (mVar 0) mNil))) (mOp (dPlus false) (mVar 3) (mFld [0] "seconds" (mVar 0))) (mC .non)) (gmName 3)))))) (sRet (mVar 4)))))
def f_best_second : FM := runF ([Str.ofString "fall", Str.ofString "most", Str.ofString "chances", Str.ofString "here", Str.ofString "found", Str.ofString "part", Str.ofString "gain", Str.ofString "one", Str.ofString "two", Str.ofString "second", Str.ofString "share"] : List Str).length m_best_second
theorem ok_best_second {P : Program} {w : World} {K : PySem.W.Frag} {mg : Str → Option Value} {base h : Heap} (E : EV M w K mg base h) : Ok M P w K mg base 5 (dF 7 "best_second") ["fall", "most", "chances"] f_best_second := by
  have t := M.ti K
  obtain ⟨fd_fall_floor_from, F_fall_floor_from, q0⟩ := ok_fall_floor_from E (P := P)
  have q1 : Binds K fd_fall_floor_from ["self"] [] := F_fall_floor_from.bindsN fun _ _ _ _ _ _ us hl => match us, hl with | [_], _ => rfl
  have q2 : ∀ c ∈ [0], AttrOk (M.g K).K ((M.g K).cls c) "seconds" := by
    intro c hc
    simp only [List.mem_cons, List.not_mem_nil, or_false] at hc
    rcases hc with rfl
    · exact ⟨E.cls 10, E.noat 31⟩
  obtain ⟨fd_fall_price_at, F_fall_price_at, q3⟩ := ok_fall_price_at E (P := P)
  have q4 : Binds K fd_fall_price_at ["self", "now"] [] := F_fall_price_at.bindsN fun _ _ _ _ _ _ us hl => match us, hl with | [_, _], _ => rfl
  obtain ⟨fd_fall_second_for, F_fall_second_for, q5⟩ := ok_fall_second_for E (P := P)
  have q6 : Binds K fd_fall_second_for ["self", "price"] [] := F_fall_second_for.bindsN fun _ _ _ _ _ _ us hl => match us, hl with | [_, _], _ => rfl
  obtain ⟨TB, hmT, huT⟩ := E.tab 5 (q := (("best_second", none), ("best_second" : Str) ++ ".<locals>." ++ "<genexpr>")) rfl
  have q8 : mg "any" = none := E.free 37
  have q9 := E.exc 26 (x := "FallError")
  have q10 : mg "FallError" = some (.ref ((M.g K).exc 1)) := E.glo 25
  have q11 : mg "zip" = none := E.free 49
  have S : FnScope [Str.ofString "fall", Str.ofString "most", Str.ofString "chances", Str.ofString "here", Str.ofString "found", Str.ofString "part", Str.ofString "gain", Str.ofString "one", Str.ofString "two", Str.ofString "second", Str.ofString "share"] ["fall", "most", "chances"] (dF 7 "best_second").scope := C8.fnScope_by (by kernel_rfl)
  have nd := S.nd
  unfold f_best_second
  refine E.ok (d := dF 7 "best_second") (N := [Str.ofString "fall", Str.ofString "most", Str.ofString "chances", Str.ofString "here", Str.ofString "found", Str.ofString "part", Str.ofString "gain", Str.ofString "one", Str.ofString "two", Str.ofString "second", Str.ofString "share"]) (ps := ["fall", "most", "chances"]) (k := 4) (ms := m_best_second) 12 (by kernel_rfl) S fun cdv A outer s H E' hcd hr tk po => ?_
  unfold m_best_second
  exact (sm_cons (sm_if (em_tru rfl (em_any (k := 0) (hr.mono (by decide)) rfl q8 (gxp_of (k := 0) (g := M.g K) rfl hr.depth TB hcd hmT huT nd (blkOk_by (own := [("one", 7), ("two", 8)]) (by kernel_rfl)) rfl (by decide) (by decide +kernel) rfl (by kernel_rfl) (im_zip2 t rfl rfl q11 (am_cons (em_var rfl (vis_by (by kernel_rfl))) (am_cons (em_sl t false rfl (em_var rfl (vis_by (by kernel_rfl))) (om_some em_int) om_none) am_nil))) (fun _ _ _ _ _ _ _ => (gm_tup (n := 2) rfl rfl (gm_cons (gm_name nd rfl (loc_by (by kernel_rfl)) (by first | exact .inl rfl | exact .inr rfl)) (gm_cons (gm_name nd rfl (loc_by (by kernel_rfl)) (by first | exact .inl rfl | exact .inr rfl)) gm_nil)) rfl)) (fun _ _ _ _ _ _ _ hg_ => ts_nil) (fun _ _ _ _ _ _ _ hg_ => (em_cmp op_le ok_le (em_ixS rfl (em_var rfl (vis_by (by kernel_rfl))) em_int (fun _ _ => rfl)) (em_ixS rfl (em_var rfl (vis_by (by kernel_rfl))) em_int (fun _ _ => rfl)) rfl)))) (fun _ => rfl)) (sm_one (sm_raise (ci := 1) rfl tk PySem.F.excBase_ValueError q9.1 q10 q9.2.1 (raises_own q9.2.2.1 q9.2.2.2) rfl)) sm_nil) (sm_cons (sm_if (em_tru rfl (em_any (k := 0) (hr.mono (by decide)) rfl q8 (gxp_of (k := 0) (g := M.g K) rfl hr.depth TB hcd hmT huT nd (blkOk_by (own := [("second", 9), ("part", 5)]) (by kernel_rfl)) rfl (by decide) (by decide +kernel) rfl (by kernel_rfl) (im_LT rfl (em_var rfl (vis_by (by kernel_rfl)))) (fun _ _ _ _ _ _ _ => (gm_tup (n := 2) rfl rfl (gm_cons (gm_name nd rfl (loc_by (by kernel_rfl)) (by first | exact .inl rfl | exact .inr rfl)) (gm_cons (gm_name nd rfl (loc_by (by kernel_rfl)) (by first | exact .inl rfl | exact .inr rfl)) gm_nil)) rfl)) (fun _ _ _ _ _ _ _ hg_ => ts_nil) (fun _ _ _ _ _ _ _ hg_ => (em_notV rfl (em_chain op_le op_le ok_le ok_le em_int (em_var rfl (vis_by (by kernel_rfl))) em_int rfl))))) (fun _ => rfl)) (sm_one (sm_raise (ci := 1) rfl tk PySem.F.excBase_ValueError q9.1 q10 q9.2.1 (raises_own q9.2.2.1 q9.2.2.2) rfl)) sm_nil) (sm_cons (sm_asg (em_tup t (am_cons (em_meth (ci := 0) rfl tk (em_var rfl (vis_by (by kernel_rfl))) (E.cls 10) (E.meth 15) q5 (hr.mono (by decide)) q6 .nil (fun _ _ => by simp [VRs]) rfl (len_cons (fun _ _ _ _ => len_nil)) (am_cons (em_var rfl (vis_by (by kernel_rfl))) am_nil)) (am_cons em_non am_nil))) (gm_tup (n := 2) rfl rfl (gm_cons (gm_name nd rfl (loc_by (by kernel_rfl)) (by first | exact .inl rfl | exact .inr rfl)) (gm_cons (gm_name nd rfl (loc_by (by kernel_rfl)) (by first | exact .inl rfl | exact .inr rfl)) gm_nil)) rfl)) (sm_cons (sm_while po (em_tcmp op_notN ok_notN (em_var rfl (vis_by (by kernel_rfl))) em_non rfl) (sm_cons (sm_set nd rfl (loc_by (by kernel_rfl)) (em_ixS rfl (em_op op_plus (ok_plus t false) (em_lst t false (am_cons em_int am_nil)) (em_lc t false rfl nd (im_LT rfl (em_var rfl (vis_by (by kernel_rfl)))) (blkOk_by (own := [("second", 9), ("share", 10)]) (by kernel_rfl)) rfl (by decide) (fun _ _ _ _ _ => (gm_tup (n := 2) rfl rfl (gm_cons (gm_name nd rfl (loc_by (by kernel_rfl)) (by first | exact .inl rfl | exact .inr rfl)) (gm_cons (gm_name nd rfl (loc_by (by kernel_rfl)) (by first | exact .inl rfl | exact .inr rfl)) gm_nil)) rfl)) (fun _ _ _ _ _ => (ts_one (em_tcmp op_le ok_le (em_var rfl (vis_by (by kernel_rfl))) (em_var rfl (vis_by (by kernel_rfl))) rfl))) (fun _ _ _ _ _ => (em_var rfl (vis_by (by kernel_rfl)))))) (em_neg em_int) (fun _ _ => rfl)) (.inl rfl)) (sm_cons (sm_set nd rfl (loc_by (by kernel_rfl)) (em_op op_times (ok_mul t false) (em_var rfl (vis_by (by kernel_rfl))) (em_op op_sub ok_minus (em_var rfl (vis_by (by kernel_rfl))) (em_meth (ci := 0) rfl tk (em_var rfl (vis_by (by kernel_rfl))) (E.cls 10) (E.meth 13) q3 (hr.mono (by decide)) q4 .nil (fun _ _ => by simp [VRs]) rfl (len_cons (fun _ _ _ _ => len_nil)) (am_cons (em_var rfl (vis_by (by kernel_rfl))) am_nil)))) (.inl rfl)) (sm_cons (sm_set nd rfl (loc_by (by kernel_rfl)) (em_ifE (em_pw (em_or (em_tcmp op_isN ok_isN (em_var rfl (vis_by (by kernel_rfl))) em_non rfl) (em_or1 (em_tcmp op_gt ok_gt (em_var rfl (vis_by (by kernel_rfl))) (em_ixS rfl (em_var rfl (vis_by (by kernel_rfl))) em_int (fun _ _ => rfl)) rfl)))) (em_tup t (am_cons (em_var rfl (vis_by (by kernel_rfl))) (am_cons (em_var rfl (vis_by (by kernel_rfl))) am_nil))) (em_var rfl (vis_by (by kernel_rfl)))) (.inl rfl)) (sm_one (sm_set nd rfl (loc_by (by kernel_rfl)) (em_ifE (em_tcmp op_lt ok_lt (em_var rfl (vis_by (by kernel_rfl))) (em_meth0 (ci := 0) rfl tk (em_var rfl (vis_by (by kernel_rfl))) (E.cls 10) (E.meth 14) q0 (hr.mono (by decide)) q1 .nil (fun _ _ => by simp [VRs]) rfl) rfl) (em_op op_plus (ok_plus t false) (em_var rfl (vis_by (by kernel_rfl))) (em_fld [0] rfl q2 (em_var rfl (vis_by (by kernel_rfl))) rfl)) em_non) (.inl rfl))))))) (sm_one (sm_ret (em_var rfl (vis_by (by kernel_rfl)))))))))
def m_law_dice : MS := sSeq (sIf (mTB (mChain dLt dLt (mOp (dMinus) (mC (.int 0)) (mC (.int 10))) (mVar 0) (mC (.int 10)))) (sRet (mLst true (mCons (mCB bAbs (mCons (mVar 0) (mNil))) (mCons (mC (.int 0)) (mCons (mC (.int 2)) (mNil)))))) (sNext)) (sRet (mLst true (mCons (mVar 0) (mCons (mOp (dPlus false) (mC (.int 1)) (mOp (dMod) (mCB bInt (mCons (mVar 0) (mNil))) (mC (.int 1009)))) (mCons (mCB bInt (mCons (mOp dGe (mVar 0) (mOp (dPow) (mC (.int 10)) (mC (.int 18)))) (mNil))) (mNil))))))
def f_law_dice : FM := runF ([Str.ofString "cell"] : List Str).length m_law_dice
theorem ok_law_dice {P : Program} {w : World} {K : PySem.W.Frag} {mg : Str → Option Value} {base h : Heap} (E : EV M w K mg base h) : Ok M P w K mg base 1 (dF 9 "_law_dice") ["cell"] f_law_dice := by
  have t := M.ti K
  have q0 : mg "int" = none := E.free 40
  have q1 : mg "abs" = none := E.free 36
  have S : FnScope [Str.ofString "cell"] ["cell"] (dF 9 "_law_dice").scope := C8.fnScope_by (by kernel_rfl)
  have nd := S.nd
  unfold f_law_dice
  refine E.ok (d := dF 9 "_law_dice") (N := [Str.ofString "cell"]) (ps := ["cell"]) (k := 0) (ms := m_law_dice) 13 (by kernel_rfl) S fun cdv A outer s H E' hcd hr tk po => ?_
  unfold m_law_dice
  exact (sm_cons (sm_if (em_tchain op_lt op_lt ok_lt ok_lt (em_op op_sub ok_minus em_int em_int) (em_var rfl (vis_by (by kernel_rfl))) em_int rfl) (sm_one (sm_ret (em_lst t true (am_cons (em_callB call_abs k_abs rfl q1 boot_abs (am_cons (em_var rfl (vis_by (by kernel_rfl))) am_nil)) (am_cons em_int (am_cons em_int am_nil)))))) sm_nil) (sm_one (sm_ret (em_lst t true (am_cons (em_var rfl (vis_by (by kernel_rfl))) (am_cons (em_op op_plus (ok_plus t false) em_int (em_op op_mod ok_mod (em_callTy call_int1 k_int rfl q0 boot_int (am_cons (em_var rfl (vis_by (by kernel_rfl))) am_nil)) em_int)) (am_cons (em_callTy call_int1 k_int rfl q0 boot_int (am_cons (em_cmp op_ge ok_ge (em_var rfl (vis_by (by kernel_rfl))) (em_op op_pow ok_pow em_int em_int) rfl) am_nil)) am_nil)))))))
def m_law_roll : MS := sSeq (sIf (mOr (mTB (mOp dEq (mOp ixD (mVar 0) (mC (.int 2))) (mC (.int 2)))) (mAnd (mTB (mOp dEq (mOp ixD (mVar 0) (mC (.int 2))) (mC (.int 1)))) (mTB (mOp dGt (mOp ixD (mVar 0) (mC (.int 0))) (mC (.int 0)))))) (sSeq (sAsg (mOp (dMod) (mCB bInt (mCons (mOp ixD (mVar 0) (mC (.int 0))) (mNil))) (mVar 1)) (gmName 2)) (sSeq (sAsg (mOp (dDiv) (mOp ixD (mVar 0) (mC (.int 0))) (mVar 1)) (gmSubD (mVar 0) (mC (.int 0)))) (sRet (mVar 2)))) (sNext)) (sSeq (sAsg (mC (.int 0)) (gmSubD (mVar 0) (mC (.int 2)))) (sSeq (sIf (mTB (mOp dGt (mVar 1) (mC (.int 100000000)))) (sStuck) (sNext)) (sSeq (sAsg (mOp (dMod) (mCB bInt (mCons (mOp (dPlus false) (mOp (dPlus false) (mOp (dMul false) (mOp ixD (mVar 0) (mC (.int 0))) (mC (.int 48271))) (mOp (dMul false) (mOp ixD (mVar 0) (mC (.int 1))) (mC (.int 69621)))) (mC (.int 11))) (mNil))) (mC (.int 2147483647))) (gmSubD (mVar 0) (mC (.int 0)))) (sSeq (sAsg (mOp (dPlus false) (mOp ixD (mVar 0) (mC (.int 1))) (mC (.int 1))) (gmSubD (mVar 0) (mC (.int 1)))) (sRet (mOp (dMod) (mCB bInt (mCons (mOp (dDiv) (mOp ixD (mVar 0) (mC (.int 0))) (mC (.int 7))) (mNil))) (mVar 1)))))))
def f_law_roll : FM := runF ([Str.ofString "dice", Str.ofString "many", Str.ofString "found"] : List Str).length m_law_roll
theorem ok_law_roll {P : Program} {w : World} {K : PySem.W.Frag} {mg : Str → Option Value} {base h : Heap} (E : EV M w K mg base h) : Ok M P w K mg base 1 (dF 10 "_law_roll") ["dice", "many"] f_law_roll := by
  have t := M.ti K
  have q0 : mg "int" = none := E.free 40
  have S : FnScope [Str.ofString "dice", Str.ofString "many", Str.ofString "found"] ["dice", "many"] (dF 10 "_law_roll").scope := C8.fnScope_by (by kernel_rfl)
  have nd := S.nd
  unfold f_law_roll
  refine E.ok (d := dF 10 "_law_roll") (N := [Str.ofString "dice", Str.ofString "many", Str.ofString "found"]) (ps := ["dice", "many"]) (k := 0) (ms := m_law_roll) 14 (by kernel_rfl) S fun cdv A outer s H E' hcd hr tk po => ?_
  unfold m_law_roll
  exact (sm_cons (sm_if (em_pw (em_or (em_tcmp (op_eqK rfl (hr.units)) ok_eq (em_ixS rfl (em_var rfl (vis_by (by kernel_rfl))) em_int (fun _ _ => rfl)) em_int rfl) (em_or1 (em_pw (em_and (em_tcmp (op_eqK rfl (hr.units)) ok_eq (em_ixS rfl (em_var rfl (vis_by (by kernel_rfl))) em_int (fun _ _ => rfl)) em_int rfl) (em_and1 (em_tcmp op_gt ok_gt (em_ixS rfl (em_var rfl (vis_by (by kernel_rfl))) em_int (fun _ _ => rfl)) em_int rfl))))))) (sm_cons (sm_set nd rfl (loc_by (by kernel_rfl)) (em_op op_mod ok_mod (em_callTy call_int1 k_int rfl q0 boot_int (am_cons (em_ixS rfl (em_var rfl (vis_by (by kernel_rfl))) em_int (fun _ _ => rfl)) am_nil)) (em_var rfl (vis_by (by kernel_rfl)))) (.inl rfl)) (sm_cons (sm_asg (em_op op_fdiv ok_div (em_ixS rfl (em_var rfl (vis_by (by kernel_rfl))) em_int (fun _ _ => rfl)) (em_var rfl (vis_by (by kernel_rfl)))) (gm_subD t (units1 hr) (em_var rfl (vis_by (by kernel_rfl))) em_int)) (sm_one (sm_ret (em_var rfl (vis_by (by kernel_rfl))))))) sm_nil) (sm_cons (sm_asg em_int (gm_subD t (units1 hr) (em_var rfl (vis_by (by kernel_rfl))) em_int)) (sm_cons (sm_if (em_tcmp op_gt ok_gt (em_var rfl (vis_by (by kernel_rfl))) em_int rfl) (sm_one sm_stuck) sm_nil) (sm_cons (sm_asg (em_op op_mod ok_mod (em_callTy call_int1 k_int rfl q0 boot_int (am_cons (em_op op_plus (ok_plus t false) (em_op op_plus (ok_plus t false) (em_op op_times (ok_mul t false) (em_ixS rfl (em_var rfl (vis_by (by kernel_rfl))) em_int (fun _ _ => rfl)) em_int) (em_op op_times (ok_mul t false) (em_ixS rfl (em_var rfl (vis_by (by kernel_rfl))) em_int (fun _ _ => rfl)) em_int)) em_int) am_nil)) em_int) (gm_subD t (units1 hr) (em_var rfl (vis_by (by kernel_rfl))) em_int)) (sm_cons (sm_asg (em_op op_plus (ok_plus t false) (em_ixS rfl (em_var rfl (vis_by (by kernel_rfl))) em_int (fun _ _ => rfl)) em_int) (gm_subD t (units1 hr) (em_var rfl (vis_by (by kernel_rfl))) em_int)) (sm_one (sm_ret (em_op op_mod ok_mod (em_callTy call_int1 k_int rfl q0 boot_int (am_cons (em_op op_fdiv ok_div (em_ixS rfl (em_var rfl (vis_by (by kernel_rfl))) em_int (fun _ _ => rfl)) em_int) am_nil)) (em_var rfl (vis_by (by kernel_rfl)))))))))))
def m_law_rounds : MS := sSeq (sAsg (mSl false (mVar 0) (mPN) (mPS (mVar 1))) (gmName 2)) (sSeq (sIf (mTB (mOp dEq (mVar 2) (mLst false (mNil)))) (sAsg (mLst false (mCons (mC (.int 0)) (mNil))) (gmName 2)) (sNext)) (sRet (mLc false (miLT (mVar 2)) [3] (gmName 3) (mYes) (mCall (fun xs => f_law_dice (xs ++ [])) (mCons (mVar 3) (mNil))))))
def f_law_rounds : FM := runF ([Str.ofString "script", Str.ofString "most", Str.ofString "cells", Str.ofString "cell"] : List Str).length m_law_rounds
theorem ok_law_rounds {P : Program} {w : World} {K : PySem.W.Frag} {mg : Str → Option Value} {base h : Heap} (E : EV M w K mg base h) : Ok M P w K mg base 2 (dF 11 "_law_rounds") ["script", "most"] f_law_rounds := by
  have t := M.ti K
  obtain ⟨fd_law_dice, F_law_dice, q0⟩ := ok_law_dice E (P := P)
  have q1 : Binds K fd_law_dice ["cell"] [] := F_law_dice.bindsN fun _ _ _ _ _ _ us hl => match us, hl with | [_], _ => rfl
  have q2 : mg "_law_dice" = some (.ref (He.fAd K ("_law_dice", none))) := E.glo 3
  have S : FnScope [Str.ofString "script", Str.ofString "most", Str.ofString "cells", Str.ofString "cell"] ["script", "most"] (dF 11 "_law_rounds").scope := C8.fnScope_by (by kernel_rfl)
  have nd := S.nd
  unfold f_law_rounds
  refine E.ok (d := dF 11 "_law_rounds") (N := [Str.ofString "script", Str.ofString "most", Str.ofString "cells", Str.ofString "cell"]) (ps := ["script", "most"]) (k := 1) (ms := m_law_rounds) 15 (by kernel_rfl) S fun cdv A outer s H E' hcd hr tk po => ?_
  unfold m_law_rounds
  exact (sm_cons (sm_set nd rfl (loc_by (by kernel_rfl)) (em_sl t false rfl (em_var rfl (vis_by (by kernel_rfl))) om_none (om_some (em_var rfl (vis_by (by kernel_rfl))))) (.inl rfl)) (sm_cons (sm_if (em_tcmp (op_eqK rfl (hr.units)) ok_eq (em_var rfl (vis_by (by kernel_rfl))) (em_lst t false am_nil) rfl) (sm_one (sm_set nd rfl (loc_by (by kernel_rfl)) (em_lst t false (am_cons em_int am_nil)) (.inl rfl))) sm_nil) (sm_one (sm_ret (em_lc t false rfl nd (im_LT rfl (em_var rfl (vis_by (by kernel_rfl)))) (blkOk_by (own := [("cell", 3)]) (by kernel_rfl)) rfl (by decide) (fun _ _ _ _ _ => (gm_name nd rfl (loc_by (by kernel_rfl)) (by first | exact .inl rfl | exact .inr rfl))) (fun _ _ _ _ _ => ts_nil) (fun _ _ _ _ _ => (em_call rfl LamX.takes0 q0 (hr.mono (by decide)) rfl q2 F_law_dice.kp q1 .nil (fun _ _ => by simp [VRs]) rfl (len_cons (fun _ _ _ _ => len_nil)) (am_cons (em_var rfl (vis_by (by kernel_rfl))) am_nil))))))))
def m_law_told : MS := sStuck
def f_law_told : FM := runF ([Str.ofString "what"] : List Str).length m_law_told
theorem ok_law_told {P : Program} {w : World} {K : PySem.W.Frag} {mg : Str → Option Value} {base h : Heap} (E : EV M w K mg base h) : Ok M P w K mg base 1 (dF 12 "_law_told") ["what"] f_law_told := by
  have t := M.ti K
  have S : FnScope [Str.ofString "what"] ["what"] (dF 12 "_law_told").scope := C8.fnScope_by (by kernel_rfl)
  have nd := S.nd
  unfold f_law_told
  refine E.ok (d := dF 12 "_law_told") (N := [Str.ofString "what"]) (ps := ["what"]) (k := 0) (ms := m_law_told) 16 (by kernel_rfl) S fun cdv A outer s H E' hcd hr tk po => ?_
  unfold m_law_told
  exact (sm_one sm_stuck)
def tab_law_plain : List LamT := [lamAt (dF 13 "_law_plain").body 5 0, lamAt (dF 13 "_law_plain").body 5 1, lamAt (dF 13 "_law_plain").body 5 2, lamAt (dF 13 "_law_plain").body 5 3, lamAt (dF 13 "_law_plain").body 5 4, lamAt (dF 13 "_law_plain").body 6 0, lamAt (dF 13 "_law_plain").body 6 1, lamAt (dF 13 "_law_plain").body 6 2, lamAt (dF 13 "_law_plain").body 7 0, lamAt (dF 13 "_law_plain").body 7 1, lamAt (dF 13 "_law_plain").body 7 2, lamAt (dF 13 "_law_plain").body 8 0, lamAt (dF 13 "_law_plain").body 8 1, lamAt (dF 13 "_law_plain").body 8 2, lamAt (dF 13 "_law_plain").body 9 0]
def lms_law_plain : List ME := [mMake 0 (fun xs => gdF f_fall_init (xs ++ [.int 1])) (mCons (mC (.int 5)) (mCons (mC (.int 1)) (mCons (mC (.int 1)) (mCons (mC (.int 0)) (mNil))))), mMake 0 (fun xs => gdF f_fall_init (xs ++ [.int 1])) (mCons (mC (.int 5)) (mCons (mC (.int 1)) (mCons (mC (.int 1)) (mCons (mC (.int 6)) (mNil))))), mMake 0 (fun xs => gdF f_fall_init (xs ++ [.int 1])) (mCons (mC (.int 5)) (mCons (mC (.int 0)) (mCons (mC (.int 1)) (mCons (mC (.int 1)) (mNil))))), mMake 0 (fun xs => gdF f_fall_init (xs ++ [.int 1])) (mCons (mC (.int 5)) (mCons (mC (.int 1)) (mCons (mC (.int 0)) (mCons (mC (.int 1)) (mNil))))), mMake 0 (fun xs => gdF f_fall_init (xs ++ [])) (mCons (mC (.int 5)) (mCons (mC (.int 1)) (mCons (mC (.int 1)) (mCons (mC (.int 1)) (mCons (mC (.int 0)) (mNil)))))), mMeth 0 "price_at" (fun xs => gdF f_fall_price_at (xs ++ [])) (mVar 0) (mCons (mNeg (mC (.int 1))) (mNil)), mMeth 0 "take_some" (fun xs => gdF f_fall_take_some (xs ++ [])) (mVar 0) (mCons (mC (.str "a")) (mCons (mC (.int 1)) (mCons (mC (.int 20)) (mNil)))), mMeth 0 "take_some" (fun xs => gdF f_fall_take_some (xs ++ [])) (mMake 0 (fun xs => gdF f_fall_init (xs ++ [.int 1])) (mCons (mC (.int 5)) (mCons (mC (.int 1)) (mCons (mC (.int 1)) (mCons (mC (.int 1)) (mNil)))))) (mCons (mC (.str "")) (mCons (mC (.int 1)) (mCons (mC (.int 0)) (mNil)))), mMeth 0 "take_some" (fun xs => gdF f_fall_take_some (xs ++ [])) (mMake 0 (fun xs => gdF f_fall_init (xs ++ [.int 1])) (mCons (mC (.int 5)) (mCons (mC (.int 1)) (mCons (mC (.int 1)) (mCons (mC (.int 1)) (mNil)))))) (mCons (mC (.str "a")) (mCons (mC (.int 0)) (mCons (mC (.int 0)) (mNil)))), mCall (fun xs => gdF f_fall_ends (xs ++ [])) (mCons (mVar 0) (mCons (mTup (mCons (mTup (mCons (mC (.str "")) (mCons (mC (.int 1)) (mCons (mC (.int 1)) (mNil))))) (mNil))) (mNil))), mCall (fun xs => gdF f_fall_ends (xs ++ [])) (mCons (mVar 0) (mCons (mTup (mCons (mTup (mCons (mC (.str "a")) (mCons (mC (.int 0)) (mCons (mC (.int 1)) (mNil))))) (mNil))) (mNil))), mCall (fun xs => gdF f_gain_of (xs ++ [])) (mCons (mVar 0) (mCons (mTup (mCons (mC (.str "x")) (mCons (mC (.int 1)) (mCons (mC (.int 1)) (mNil))))) (mCons (mNeg (mC (.int 1))) (mNil)))), mCall (fun xs => gdF f_best_second (xs ++ [])) (mCons (mVar 0) (mCons (mC (.int 90)) (mCons (mTup (mCons (mTup (mCons (mC (.int 5)) (mCons (mC (.int 1)) (mNil)))) (mCons (mTup (mCons (mC (.int 5)) (mCons (mC (.int 1)) (mNil)))) (mNil)))) (mNil)))), mCall (fun xs => gdF f_best_second (xs ++ [])) (mCons (mVar 0) (mCons (mC (.int 90)) (mCons (mTup (mCons (mTup (mCons (mC (.int 5)) (mCons (mC (.int 1001)) (mNil)))) (mNil))) (mNil)))), mCall (fun xs => gdF f_best_second (xs ++ [])) (mCons (mVar 0) (mCons (mC (.int 90)) (mCons (mTup (mCons (mTup (mCons (mC (.int 5)) (mCons (mNeg (mC (.int 1))) (mNil)))) (mNil))) (mNil))))]
def m_law_plain : MS := clS (sSeq (sAsg (mMake 0 (fun xs => gdF f_fall_init (xs ++ [])) (mCons (mC (.int 100)) (mCons (mC (.int 10)) (mCons (mC (.int 5)) (mCons (mC (.int 30)) (mCons (mC (.int 3)) (mNil))))))) (gmName 0)) (sSeq (sAsg (mLst false (mCons (mMeth 0 "price_at" (fun xs => gdF f_fall_price_at (xs ++ [])) (mVar 0) (mCons (mC (.int 12)) (mNil))) (mCons (mMeth 0 "floor_from" (fun xs => gdF f_fall_floor_from (xs ++ [])) (mVar 0) mNil) (mCons (mMeth 0 "second_for" (fun xs => gdF f_fall_second_for (xs ++ [])) (mVar 0) (mCons (mC (.int 75)) (mNil))) (mCons (mMeth 0 "second_for" (fun xs => gdF f_fall_second_for (xs ++ [])) (mVar 0) (mCons (mC (.int 20)) (mNil))) (mCons (mMeth 0 "take_some" (fun xs => gdF f_fall_take_some (xs ++ [])) (mVar 0) (mCons (mC (.str "ann")) (mCons (mC (.int 2)) (mCons (mC (.int 12)) (mNil))))) (mCons (mMeth 0 "left_now" (fun xs => gdF f_fall_left_now (xs ++ [])) (mVar 0) mNil) (mNil)))))))) (gmName 1)) (sSeq (sAsg (mOp (dPlus false) (mVar 1) (mLst false (mCons (mMeth 0 "take_some" (fun xs => gdF f_fall_take_some (xs ++ [])) (mVar 0) (mCons (mC (.str "bob")) (mCons (mC (.int 1)) (mCons (mC (.int 20)) (mNil))))) (mCons (mMeth 0 "paid_by" (fun xs => gdF f_fall_paid_by (xs ++ [])) (mVar 0) mNil) (mCons (mMeth 0 "whole_price" (fun xs => gdF f_fall_whole_price (xs ++ [])) (mVar 0) mNil) (mCons (mMeth 0 "at_last_price" (fun xs => gdF f_fall_at_last_price (xs ++ [])) (mVar 0) mNil) (mCons (mMeth 0 "take_lines" (fun xs => gdF f_fall_take_lines (xs ++ [])) (mVar 0) mNil) (mNil)))))))) (gmName 1)) (sSeq (sAsg (mOp (dPlus false) (mVar 1) (mLst false (mCons (mCall (fun xs => gdF f_fall_ends (xs ++ [])) (mCons (mMake 0 (fun xs => gdF f_fall_init (xs ++ [])) (mCons (mC (.int 100)) (mCons (mC (.int 10)) (mCons (mC (.int 5)) (mCons (mC (.int 30)) (mCons (mC (.int 3)) (mNil))))))) (mCons (mTup (mCons (mTup (mCons (mC (.str "x")) (mCons (mC (.int 2)) (mCons (mC (.int 60)) (mNil))))) (mCons (mTup (mCons (mC (.str "y")) (mCons (mC (.int 2)) (mCons (mC (.int 80)) (mNil))))) (mNil)))) (mNil)))) (mCons (mCall (fun xs => gdF f_gain_of (xs ++ [])) (mCons (mVar 0) (mCons (mTup (mCons (mC (.str "x")) (mCons (mC (.int 2)) (mCons (mC (.int 90)) (mNil))))) (mCons (mC (.int 12)) (mNil))))) (mNil))))) (gmName 1)) (sSeq (sAsg (mOp (dPlus false) (mVar 1) (mLst false (mCons (mCall (fun xs => gdF f_best_second (xs ++ [])) (mCons (mVar 0) (mCons (mC (.int 90)) (mCons (mTup (mCons (mTup (mCons (mC (.int 10)) (mCons (mC (.int 500)) (mNil)))) (mCons (mTup (mCons (mC (.int 20)) (mCons (mC (.int 100)) (mNil)))) (mNil)))) (mNil))))) (mCons (mCall (fun xs => gdF f_best_second (xs ++ [])) (mCons (mVar 0) (mCons (mC (.int 20)) (mCons (mTup (mNil)) (mNil))))) (mCons (mMeth 0 "at_last_price" (fun xs => gdF f_fall_at_last_price (xs ++ [])) (mMake 0 (fun xs => gdF f_fall_init (xs ++ [.int 1])) (mCons (mC (.int 5)) (mCons (mC (.int 1)) (mCons (mC (.int 1)) (mCons (mC (.int 5)) (mNil)))))) mNil) (mCons (mMeth 0 "second_for" (fun xs => gdF f_fall_second_for (xs ++ [])) (mVar 0) (mCons (mC (.int 500)) (mNil))) (mNil))))))) (gmName 1)) (sSeq (sAsg (mLst false (mCons (mC (.clo 0)) (mCons (mC (.clo 1)) (mCons (mC (.clo 2)) (mCons (mC (.clo 3)) (mCons (mC (.clo 4)) (mNil))))))) (gmName 2)) (sSeq (sAsg (mOp (dPlus false) (mVar 2) (mLst false (mCons (mC (.clo 5)) (mCons (mC (.clo 6)) (mCons (mC (.clo 7)) (mNil)))))) (gmName 2)) (sSeq (sAsg (mOp (dPlus false) (mVar 2) (mLst false (mCons (mC (.clo 8)) (mCons (mC (.clo 9)) (mCons (mC (.clo 10)) (mNil)))))) (gmName 2)) (sSeq (sAsg (mOp (dPlus false) (mVar 2) (mLst false (mCons (mC (.clo 11)) (mCons (mC (.clo 12)) (mCons (mC (.clo 13)) (mNil)))))) (gmName 2)) (sSeq (sAsg (mOp (dPlus false) (mVar 2) (mLst false (mCons (mC (.clo 14)) (mNil)))) (gmName 2)) (sSeq (sIf (mTB (mOp dNe (mLc false (miLT (mVar 2)) [3] (gmName 3) (mToldL 3 [3] (fun k => lms_law_plain.getD k mStuck) 1) (mC (.int 1))) (mLst false (mNil)))) (sRet (mC (.bl false))) (sNext)) (sRet (mOp dEqT (mVar 1) (mLst false (mCons (mC (.int 80)) (mCons (mC (.int 35)) (mCons (mC (.int 15)) (mCons (mC .non) (mCons (mC (.int 160)) (mCons (mC (.int 1)) (mCons (mC (.int 60)) (mCons (mDisp false [(mC (.str "ann"), mTup (mCons (mC (.int 2)) (mCons (mC (.int 160)) (mNil)))), (mC (.str "bob"), mTup (mCons (mC (.int 1)) (mCons (mC (.int 60)) (mNil))))]) (mCons (mC (.int 220)) (mCons (mC (.int 180)) (mCons (mTup (mCons (mC (.str "12 ann 2 80")) (mCons (mC (.str "20 bob 1 60")) (mNil)))) (mCons (mTup (mCons (mTup (mCons (mC (.int 10)) (mCons (mC (.str "y")) (mCons (mC (.int 2)) (mCons (mC (.int 80)) (mNil)))))) (mCons (mTup (mCons (mC (.int 20)) (mCons (mC (.str "x")) (mCons (mC (.int 1)) (mCons (mC (.int 60)) (mNil)))))) (mNil)))) (mCons (mC (.int 20)) (mCons (mTup (mCons (mC (.int 10000)) (mCons (mC (.int 15)) (mNil)))) (mCons (mC .non) (mCons (mC (.int 0)) (mCons (mC (.int 0)) (mNil))))))))))))))))))))))))))))))))
def f_law_plain : FM := runF ([Str.ofString "fall", Str.ofString "told", Str.ofString "bad", Str.ofString "f"] : List Str).length m_law_plain
theorem ok_law_plain {P : Program} {w : World} {K : PySem.W.Frag} {mg : Str → Option Value} {base h : Heap} (E : EV M w K mg base h) : Ok M P w K mg base 9 (dF 13 "_law_plain") [] f_law_plain := by
  have t := M.ti K
  obtain ⟨fd_fall_init, F_fall_init, q0⟩ := ok_fall_init E (P := P)
  obtain ⟨ds_fall_init_5, hd_fall_init_5, q1⟩ := F_fall_init.binds1 (ps := ["self", "first", "fall", "seconds", "floor", "many"]) 5 0 (by simp [He.DefD.dvs, dM, dF]) (by simp [He.DefD.dvs, dM, dF]) fun _ _ _ _ _ _ _ us its h1 h2 => match us, h1, its, h2 with | [_, _, _, _, _], _, [_], _ => ⟨_, rfl, rfl⟩
  have q2 : mg "Fall" = some (.ref ((M.g K).cls 0)) := E.glo 9
  obtain ⟨ds_fall_init_6, hd_fall_init_6, q3⟩ := F_fall_init.binds1 (ps := ["self", "first", "fall", "seconds", "floor", "many"]) 6 1 (by simp [He.DefD.dvs, dM, dF]) (by simp [He.DefD.dvs, dM, dF]) fun _ _ _ _ _ _ _ us its h1 h2 => match us, h1, its, h2 with | [_, _, _, _, _, _], _, [_], _ => ⟨_, rfl, rfl⟩
  obtain ⟨fd_fall_price_at, F_fall_price_at, q4⟩ := ok_fall_price_at E (P := P)
  have q5 : Binds K fd_fall_price_at ["self", "now"] [] := F_fall_price_at.bindsN fun _ _ _ _ _ _ us hl => match us, hl with | [_, _], _ => rfl
  obtain ⟨fd_fall_take_some, F_fall_take_some, q6⟩ := ok_fall_take_some E (P := P)
  have q7 : Binds K fd_fall_take_some ["self", "who", "many", "now"] [] := F_fall_take_some.bindsN fun _ _ _ _ _ _ us hl => match us, hl with | [_, _, _, _], _ => rfl
  obtain ⟨fd_fall_ends, F_fall_ends, q8⟩ := ok_fall_ends E (P := P)
  have q9 : Binds K fd_fall_ends ["fall", "wishes"] [] := F_fall_ends.bindsN fun _ _ _ _ _ _ us hl => match us, hl with | [_, _], _ => rfl
  have q10 : mg "fall_ends" = some (.ref (He.fAd K ("fall_ends", none))) := E.glo 0
  obtain ⟨fd_gain_of, F_gain_of, q11⟩ := ok_gain_of E (P := P)
  have q12 : Binds K fd_gain_of ["fall", "wish", "second"] [] := F_gain_of.bindsN fun _ _ _ _ _ _ us hl => match us, hl with | [_, _, _], _ => rfl
  have q13 : mg "gain_of" = some (.ref (He.fAd K ("gain_of", none))) := E.glo 1
  obtain ⟨fd_best_second, F_best_second, q14⟩ := ok_best_second E (P := P)
  have q15 : Binds K fd_best_second ["fall", "most", "chances"] [] := F_best_second.bindsN fun _ _ _ _ _ _ us hl => match us, hl with | [_, _, _], _ => rfl
  have q16 : mg "best_second" = some (.ref (He.fAd K ("best_second", none))) := E.glo 2
  have q17 : mg "_law_told" = some (.ref (He.fAd K ("_law_told", none))) := E.glo 6
  have q18 : mg "FallError" = some (.ref ((M.g K).exc 1)) := E.glo 25
  have q19 := E.exm 28 (x := "FallError") (y := "FallError") (b := true)
  obtain ⟨TB, hmT, huT⟩ := E.tab 6 (q := (("_law_plain", none), ("_law_plain" : Str) ++ ".<locals>." ++ "<lambda>")) rfl
  obtain ⟨fd_fall_second_for, F_fall_second_for, q21⟩ := ok_fall_second_for E (P := P)
  have q22 : Binds K fd_fall_second_for ["self", "price"] [] := F_fall_second_for.bindsN fun _ _ _ _ _ _ us hl => match us, hl with | [_, _], _ => rfl
  obtain ⟨fd_fall_at_last_price, F_fall_at_last_price, q23⟩ := ok_fall_at_last_price E (P := P)
  have q24 : Binds K fd_fall_at_last_price ["self"] [] := F_fall_at_last_price.bindsN fun _ _ _ _ _ _ us hl => match us, hl with | [_], _ => rfl
  obtain ⟨fd_fall_take_lines, F_fall_take_lines, q25⟩ := ok_fall_take_lines E (P := P)
  have q26 : Binds K fd_fall_take_lines ["self"] [] := F_fall_take_lines.bindsN fun _ _ _ _ _ _ us hl => match us, hl with | [_], _ => rfl
  obtain ⟨fd_fall_whole_price, F_fall_whole_price, q27⟩ := ok_fall_whole_price E (P := P)
  have q28 : Binds K fd_fall_whole_price ["self"] [] := F_fall_whole_price.bindsN fun _ _ _ _ _ _ us hl => match us, hl with | [_], _ => rfl
  obtain ⟨fd_fall_paid_by, F_fall_paid_by, q29⟩ := ok_fall_paid_by E (P := P)
  have q30 : Binds K fd_fall_paid_by ["self"] [] := F_fall_paid_by.bindsN fun _ _ _ _ _ _ us hl => match us, hl with | [_], _ => rfl
  obtain ⟨fd_fall_left_now, F_fall_left_now, q31⟩ := ok_fall_left_now E (P := P)
  have q32 : Binds K fd_fall_left_now ["self"] [] := F_fall_left_now.bindsN fun _ _ _ _ _ _ us hl => match us, hl with | [_], _ => rfl
  obtain ⟨fd_fall_floor_from, F_fall_floor_from, q33⟩ := ok_fall_floor_from E (P := P)
  have q34 : Binds K fd_fall_floor_from ["self"] [] := F_fall_floor_from.bindsN fun _ _ _ _ _ _ us hl => match us, hl with | [_], _ => rfl
  have S : FnScope [Str.ofString "fall", Str.ofString "told", Str.ofString "bad", Str.ofString "f"] [] (dF 13 "_law_plain").scope := C8.fnScope_by (by kernel_rfl)
  have nd := S.nd
  unfold f_law_plain
  refine E.ok (d := dF 13 "_law_plain") (N := [Str.ofString "fall", Str.ofString "told", Str.ofString "bad", Str.ofString "f"]) (ps := []) (k := 8) (ms := m_law_plain) 17 (by kernel_rfl) S fun cdv A outer s H E' hcd hr tk po => ?_
  unfold m_law_plain
  refine sm_clX (tab := tab_law_plain) (fun _ _ _ _ _ z => z) ?_
  have t : ∀ {X : Cx} {tab : List LamT}, TiOk ((M.g K).cl X tab) := fun {X tab} => ti_cl t
  have LM : LamsOk (cxOf (L2.CX P w) P w K mg base [Str.ofString "fall", Str.ofString "told", Str.ofString "bad", Str.ofString "f"] (dF 13 "_law_plain").qual (dF 13 "_law_plain").scope (He.fAd K (dF 13 "_law_plain").at_) cdv A outer s H E') (M.g K) tab_law_plain 6 (fun k => lms_law_plain.getD k mStuck) := LamsL.ok (LamsL.cons ⟨lamS_by (by kernel_rfl), fun _ _ _ _ _ => rfl, fun A2 outer2 s2 H2 E2 f2 c2 hr2 tk2 => (em_make (ci := 0) t rfl tk2 (E.mkr 11) (fn_cl (fun _ _ _ _ _ z => z) q0) (hr2.mono (by decide)) rfl q2 q1 hd_fall_init_5 (fun _ _ => by simp [VRs, VR, He.DefD.dvs, dM, dF, He.Dv.v]) rfl (len_cons (len_cons (len_cons (len_cons (fun _ _ _ _ => len_nil))))) (am_cons em_int (am_cons em_int (am_cons em_int (am_cons em_int am_nil)))))⟩ (LamsL.cons ⟨lamS_by (by kernel_rfl), fun _ _ _ _ _ => rfl, fun A2 outer2 s2 H2 E2 f2 c2 hr2 tk2 => (em_make (ci := 0) t rfl tk2 (E.mkr 11) (fn_cl (fun _ _ _ _ _ z => z) q0) (hr2.mono (by decide)) rfl q2 q1 hd_fall_init_5 (fun _ _ => by simp [VRs, VR, He.DefD.dvs, dM, dF, He.Dv.v]) rfl (len_cons (len_cons (len_cons (len_cons (fun _ _ _ _ => len_nil))))) (am_cons em_int (am_cons em_int (am_cons em_int (am_cons em_int am_nil)))))⟩ (LamsL.cons ⟨lamS_by (by kernel_rfl), fun _ _ _ _ _ => rfl, fun A2 outer2 s2 H2 E2 f2 c2 hr2 tk2 => (em_make (ci := 0) t rfl tk2 (E.mkr 11) (fn_cl (fun _ _ _ _ _ z => z) q0) (hr2.mono (by decide)) rfl q2 q1 hd_fall_init_5 (fun _ _ => by simp [VRs, VR, He.DefD.dvs, dM, dF, He.Dv.v]) rfl (len_cons (len_cons (len_cons (len_cons (fun _ _ _ _ => len_nil))))) (am_cons em_int (am_cons em_int (am_cons em_int (am_cons em_int am_nil)))))⟩ (LamsL.cons ⟨lamS_by (by kernel_rfl), fun _ _ _ _ _ => rfl, fun A2 outer2 s2 H2 E2 f2 c2 hr2 tk2 => (em_make (ci := 0) t rfl tk2 (E.mkr 11) (fn_cl (fun _ _ _ _ _ z => z) q0) (hr2.mono (by decide)) rfl q2 q1 hd_fall_init_5 (fun _ _ => by simp [VRs, VR, He.DefD.dvs, dM, dF, He.Dv.v]) rfl (len_cons (len_cons (len_cons (len_cons (fun _ _ _ _ => len_nil))))) (am_cons em_int (am_cons em_int (am_cons em_int (am_cons em_int am_nil)))))⟩ (LamsL.cons ⟨lamS_by (by kernel_rfl), fun _ _ _ _ _ => rfl, fun A2 outer2 s2 H2 E2 f2 c2 hr2 tk2 => (em_make (ci := 0) t rfl tk2 (E.mkr 11) (fn_cl (fun _ _ _ _ _ z => z) q0) (hr2.mono (by decide)) rfl q2 q3 hd_fall_init_6 (fun _ _ => by simp [VRs, VR, He.DefD.dvs, dM, dF, He.Dv.v]) rfl (len_cons (len_cons (len_cons (len_cons (len_cons (fun _ _ _ _ => len_nil)))))) (am_cons em_int (am_cons em_int (am_cons em_int (am_cons em_int (am_cons em_int am_nil))))))⟩ (LamsL.cons ⟨lamS_by (by kernel_rfl), fun _ _ _ _ _ => rfl, fun A2 outer2 s2 H2 E2 f2 c2 hr2 tk2 => (em_meth (ci := 0) rfl tk2 (em_var rfl (vis_by (by kernel_rfl))) (E.cls 10) (E.meth 13) (fn_cl (fun _ _ _ _ _ z => z) q4) (hr2.mono (by decide)) q5 .nil (fun _ _ => by simp [VRs]) rfl (len_cons (fun _ _ _ _ => len_nil)) (am_cons (em_neg em_int) am_nil))⟩ (LamsL.cons ⟨lamS_by (by kernel_rfl), fun _ _ _ _ _ => rfl, fun A2 outer2 s2 H2 E2 f2 c2 hr2 tk2 => (em_meth (ci := 0) rfl tk2 (em_var rfl (vis_by (by kernel_rfl))) (E.cls 10) (E.meth 17) (fn_cl (fun _ _ _ _ _ z => z) q6) (hr2.mono (by decide)) q7 .nil (fun _ _ => by simp [VRs]) rfl (len_cons (len_cons (len_cons (fun _ _ _ _ => len_nil)))) (am_cons em_str (am_cons em_int (am_cons em_int am_nil))))⟩ (LamsL.cons ⟨lamS_by (by kernel_rfl), fun _ _ _ _ _ => rfl, fun A2 outer2 s2 H2 E2 f2 c2 hr2 tk2 => (em_meth (ci := 0) rfl tk2 (em_make (ci := 0) t rfl tk2 (E.mkr 11) (fn_cl (fun _ _ _ _ _ z => z) q0) (hr2.mono (by decide)) rfl q2 q1 hd_fall_init_5 (fun _ _ => by simp [VRs, VR, He.DefD.dvs, dM, dF, He.Dv.v]) rfl (len_cons (len_cons (len_cons (len_cons (fun _ _ _ _ => len_nil))))) (am_cons em_int (am_cons em_int (am_cons em_int (am_cons em_int am_nil))))) (E.cls 10) (E.meth 17) (fn_cl (fun _ _ _ _ _ z => z) q6) (hr2.mono (by decide)) q7 .nil (fun _ _ => by simp [VRs]) rfl (len_cons (len_cons (len_cons (fun _ _ _ _ => len_nil)))) (am_cons em_str (am_cons em_int (am_cons em_int am_nil))))⟩ (LamsL.cons ⟨lamS_by (by kernel_rfl), fun _ _ _ _ _ => rfl, fun A2 outer2 s2 H2 E2 f2 c2 hr2 tk2 => (em_meth (ci := 0) rfl tk2 (em_make (ci := 0) t rfl tk2 (E.mkr 11) (fn_cl (fun _ _ _ _ _ z => z) q0) (hr2.mono (by decide)) rfl q2 q1 hd_fall_init_5 (fun _ _ => by simp [VRs, VR, He.DefD.dvs, dM, dF, He.Dv.v]) rfl (len_cons (len_cons (len_cons (len_cons (fun _ _ _ _ => len_nil))))) (am_cons em_int (am_cons em_int (am_cons em_int (am_cons em_int am_nil))))) (E.cls 10) (E.meth 17) (fn_cl (fun _ _ _ _ _ z => z) q6) (hr2.mono (by decide)) q7 .nil (fun _ _ => by simp [VRs]) rfl (len_cons (len_cons (len_cons (fun _ _ _ _ => len_nil)))) (am_cons em_str (am_cons em_int (am_cons em_int am_nil))))⟩ (LamsL.cons ⟨lamS_by (by kernel_rfl), fun _ _ _ _ _ => rfl, fun A2 outer2 s2 H2 E2 f2 c2 hr2 tk2 => (em_call rfl tk2 (fn_cl (fun _ _ _ _ _ z => z) q8) (hr2.mono (by decide)) rfl q10 F_fall_ends.kp q9 .nil (fun _ _ => by simp [VRs]) rfl (len_cons (len_cons (fun _ _ _ _ => len_nil))) (am_cons (em_var rfl (vis_by (by kernel_rfl))) (am_cons (em_tup t (am_cons (em_tup t (am_cons em_str (am_cons em_int (am_cons em_int am_nil)))) am_nil)) am_nil)))⟩ (LamsL.cons ⟨lamS_by (by kernel_rfl), fun _ _ _ _ _ => rfl, fun A2 outer2 s2 H2 E2 f2 c2 hr2 tk2 => (em_call rfl tk2 (fn_cl (fun _ _ _ _ _ z => z) q8) (hr2.mono (by decide)) rfl q10 F_fall_ends.kp q9 .nil (fun _ _ => by simp [VRs]) rfl (len_cons (len_cons (fun _ _ _ _ => len_nil))) (am_cons (em_var rfl (vis_by (by kernel_rfl))) (am_cons (em_tup t (am_cons (em_tup t (am_cons em_str (am_cons em_int (am_cons em_int am_nil)))) am_nil)) am_nil)))⟩ (LamsL.cons ⟨lamS_by (by kernel_rfl), fun _ _ _ _ _ => rfl, fun A2 outer2 s2 H2 E2 f2 c2 hr2 tk2 => (em_call rfl tk2 (fn_cl (fun _ _ _ _ _ z => z) q11) (hr2.mono (by decide)) rfl q13 F_gain_of.kp q12 .nil (fun _ _ => by simp [VRs]) rfl (len_cons (len_cons (len_cons (fun _ _ _ _ => len_nil)))) (am_cons (em_var rfl (vis_by (by kernel_rfl))) (am_cons (em_tup t (am_cons em_str (am_cons em_int (am_cons em_int am_nil)))) (am_cons (em_neg em_int) am_nil))))⟩ (LamsL.cons ⟨lamS_by (by kernel_rfl), fun _ _ _ _ _ => rfl, fun A2 outer2 s2 H2 E2 f2 c2 hr2 tk2 => (em_call rfl tk2 (fn_cl (fun _ _ _ _ _ z => z) q14) (hr2.mono (by decide)) rfl q16 F_best_second.kp q15 .nil (fun _ _ => by simp [VRs]) rfl (len_cons (len_cons (len_cons (fun _ _ _ _ => len_nil)))) (am_cons (em_var rfl (vis_by (by kernel_rfl))) (am_cons em_int (am_cons (em_tup t (am_cons (em_tup t (am_cons em_int (am_cons em_int am_nil))) (am_cons (em_tup t (am_cons em_int (am_cons em_int am_nil))) am_nil))) am_nil))))⟩ (LamsL.cons ⟨lamS_by (by kernel_rfl), fun _ _ _ _ _ => rfl, fun A2 outer2 s2 H2 E2 f2 c2 hr2 tk2 => (em_call rfl tk2 (fn_cl (fun _ _ _ _ _ z => z) q14) (hr2.mono (by decide)) rfl q16 F_best_second.kp q15 .nil (fun _ _ => by simp [VRs]) rfl (len_cons (len_cons (len_cons (fun _ _ _ _ => len_nil)))) (am_cons (em_var rfl (vis_by (by kernel_rfl))) (am_cons em_int (am_cons (em_tup t (am_cons (em_tup t (am_cons em_int (am_cons em_int am_nil))) am_nil)) am_nil))))⟩ (LamsL.cons ⟨lamS_by (by kernel_rfl), fun _ _ _ _ _ => rfl, fun A2 outer2 s2 H2 E2 f2 c2 hr2 tk2 => (em_call rfl tk2 (fn_cl (fun _ _ _ _ _ z => z) q14) (hr2.mono (by decide)) rfl q16 F_best_second.kp q15 .nil (fun _ _ => by simp [VRs]) rfl (len_cons (len_cons (len_cons (fun _ _ _ _ => len_nil)))) (am_cons (em_var rfl (vis_by (by kernel_rfl))) (am_cons em_int (am_cons (em_tup t (am_cons (em_tup t (am_cons em_int (am_cons (em_neg em_int) am_nil))) am_nil)) am_nil))))⟩ LamsL.nil)))))))))))))))
  exact (sm_cons (sm_set nd rfl (loc_by (by kernel_rfl)) (em_make (ci := 0) t rfl tk (E.mkr 11) (fn_cl (fun _ _ _ _ _ z => z) q0) (hr.mono (by decide)) rfl q2 q3 hd_fall_init_6 (fun _ _ => by simp [VRs, VR, He.DefD.dvs, dM, dF, He.Dv.v]) rfl (len_cons (len_cons (len_cons (len_cons (len_cons (fun _ _ _ _ => len_nil)))))) (am_cons em_int (am_cons em_int (am_cons em_int (am_cons em_int (am_cons em_int am_nil)))))) (.inl rfl)) (sm_cons (sm_set nd rfl (loc_by (by kernel_rfl)) (em_lst t false (am_cons (em_meth (ci := 0) rfl tk (em_var rfl (vis_by (by kernel_rfl))) (E.cls 10) (E.meth 13) (fn_cl (fun _ _ _ _ _ z => z) q4) (hr.mono (by decide)) q5 .nil (fun _ _ => by simp [VRs]) rfl (len_cons (fun _ _ _ _ => len_nil)) (am_cons em_int am_nil)) (am_cons (em_meth0 (ci := 0) rfl tk (em_var rfl (vis_by (by kernel_rfl))) (E.cls 10) (E.meth 14) (fn_cl (fun _ _ _ _ _ z => z) q33) (hr.mono (by decide)) q34 .nil (fun _ _ => by simp [VRs]) rfl) (am_cons (em_meth (ci := 0) rfl tk (em_var rfl (vis_by (by kernel_rfl))) (E.cls 10) (E.meth 15) (fn_cl (fun _ _ _ _ _ z => z) q21) (hr.mono (by decide)) q22 .nil (fun _ _ => by simp [VRs]) rfl (len_cons (fun _ _ _ _ => len_nil)) (am_cons em_int am_nil)) (am_cons (em_meth (ci := 0) rfl tk (em_var rfl (vis_by (by kernel_rfl))) (E.cls 10) (E.meth 15) (fn_cl (fun _ _ _ _ _ z => z) q21) (hr.mono (by decide)) q22 .nil (fun _ _ => by simp [VRs]) rfl (len_cons (fun _ _ _ _ => len_nil)) (am_cons em_int am_nil)) (am_cons (em_meth (ci := 0) rfl tk (em_var rfl (vis_by (by kernel_rfl))) (E.cls 10) (E.meth 17) (fn_cl (fun _ _ _ _ _ z => z) q6) (hr.mono (by decide)) q7 .nil (fun _ _ => by simp [VRs]) rfl (len_cons (len_cons (len_cons (fun _ _ _ _ => len_nil)))) (am_cons em_str (am_cons em_int (am_cons em_int am_nil)))) (am_cons (em_meth0 (ci := 0) rfl tk (em_var rfl (vis_by (by kernel_rfl))) (E.cls 10) (E.meth 16) (fn_cl (fun _ _ _ _ _ z => z) q31) (hr.mono (by decide)) q32 .nil (fun _ _ => by simp [VRs]) rfl) am_nil))))))) (.inl rfl)) (sm_cons (sm_set nd rfl (loc_by (by kernel_rfl)) (em_op op_plus (ok_plus t false) (em_var rfl (vis_by (by kernel_rfl))) (em_lst t false (am_cons (em_meth (ci := 0) rfl tk (em_var rfl (vis_by (by kernel_rfl))) (E.cls 10) (E.meth 17) (fn_cl (fun _ _ _ _ _ z => z) q6) (hr.mono (by decide)) q7 .nil (fun _ _ => by simp [VRs]) rfl (len_cons (len_cons (len_cons (fun _ _ _ _ => len_nil)))) (am_cons em_str (am_cons em_int (am_cons em_int am_nil)))) (am_cons (em_meth0 (ci := 0) rfl tk (em_var rfl (vis_by (by kernel_rfl))) (E.cls 10) (E.meth 18) (fn_cl (fun _ _ _ _ _ z => z) q29) (hr.mono (by decide)) q30 .nil (fun _ _ => by simp [VRs]) rfl) (am_cons (em_meth0 (ci := 0) rfl tk (em_var rfl (vis_by (by kernel_rfl))) (E.cls 10) (E.meth 19) (fn_cl (fun _ _ _ _ _ z => z) q27) (hr.mono (by decide)) q28 .nil (fun _ _ => by simp [VRs]) rfl) (am_cons (em_meth0 (ci := 0) rfl tk (em_var rfl (vis_by (by kernel_rfl))) (E.cls 10) (E.meth 20) (fn_cl (fun _ _ _ _ _ z => z) q23) (hr.mono (by decide)) q24 .nil (fun _ _ => by simp [VRs]) rfl) (am_cons (em_meth0 (ci := 0) rfl tk (em_var rfl (vis_by (by kernel_rfl))) (E.cls 10) (E.meth 21) (fn_cl (fun _ _ _ _ _ z => z) q25) (hr.mono (by decide)) q26 .nil (fun _ _ => by simp [VRs]) rfl) am_nil))))))) (.inl rfl)) (sm_cons (sm_set nd rfl (loc_by (by kernel_rfl)) (em_op op_plus (ok_plus t false) (em_var rfl (vis_by (by kernel_rfl))) (em_lst t false (am_cons (em_call rfl tk (fn_cl (fun _ _ _ _ _ z => z) q8) (hr.mono (by decide)) rfl q10 F_fall_ends.kp q9 .nil (fun _ _ => by simp [VRs]) rfl (len_cons (len_cons (fun _ _ _ _ => len_nil))) (am_cons (em_make (ci := 0) t rfl tk (E.mkr 11) (fn_cl (fun _ _ _ _ _ z => z) q0) (hr.mono (by decide)) rfl q2 q3 hd_fall_init_6 (fun _ _ => by simp [VRs, VR, He.DefD.dvs, dM, dF, He.Dv.v]) rfl (len_cons (len_cons (len_cons (len_cons (len_cons (fun _ _ _ _ => len_nil)))))) (am_cons em_int (am_cons em_int (am_cons em_int (am_cons em_int (am_cons em_int am_nil)))))) (am_cons (em_tup t (am_cons (em_tup t (am_cons em_str (am_cons em_int (am_cons em_int am_nil)))) (am_cons (em_tup t (am_cons em_str (am_cons em_int (am_cons em_int am_nil)))) am_nil))) am_nil))) (am_cons (em_call rfl tk (fn_cl (fun _ _ _ _ _ z => z) q11) (hr.mono (by decide)) rfl q13 F_gain_of.kp q12 .nil (fun _ _ => by simp [VRs]) rfl (len_cons (len_cons (len_cons (fun _ _ _ _ => len_nil)))) (am_cons (em_var rfl (vis_by (by kernel_rfl))) (am_cons (em_tup t (am_cons em_str (am_cons em_int (am_cons em_int am_nil)))) (am_cons em_int am_nil)))) am_nil)))) (.inl rfl)) (sm_cons (sm_set nd rfl (loc_by (by kernel_rfl)) (em_op op_plus (ok_plus t false) (em_var rfl (vis_by (by kernel_rfl))) (em_lst t false (am_cons (em_call rfl tk (fn_cl (fun _ _ _ _ _ z => z) q14) (hr.mono (by decide)) rfl q16 F_best_second.kp q15 .nil (fun _ _ => by simp [VRs]) rfl (len_cons (len_cons (len_cons (fun _ _ _ _ => len_nil)))) (am_cons (em_var rfl (vis_by (by kernel_rfl))) (am_cons em_int (am_cons (em_tup t (am_cons (em_tup t (am_cons em_int (am_cons em_int am_nil))) (am_cons (em_tup t (am_cons em_int (am_cons em_int am_nil))) am_nil))) am_nil)))) (am_cons (em_call rfl tk (fn_cl (fun _ _ _ _ _ z => z) q14) (hr.mono (by decide)) rfl q16 F_best_second.kp q15 .nil (fun _ _ => by simp [VRs]) rfl (len_cons (len_cons (len_cons (fun _ _ _ _ => len_nil)))) (am_cons (em_var rfl (vis_by (by kernel_rfl))) (am_cons em_int (am_cons (em_tup t am_nil) am_nil)))) (am_cons (em_meth0 (ci := 0) rfl tk (em_make (ci := 0) t rfl tk (E.mkr 11) (fn_cl (fun _ _ _ _ _ z => z) q0) (hr.mono (by decide)) rfl q2 q1 hd_fall_init_5 (fun _ _ => by simp [VRs, VR, He.DefD.dvs, dM, dF, He.Dv.v]) rfl (len_cons (len_cons (len_cons (len_cons (fun _ _ _ _ => len_nil))))) (am_cons em_int (am_cons em_int (am_cons em_int (am_cons em_int am_nil))))) (E.cls 10) (E.meth 20) (fn_cl (fun _ _ _ _ _ z => z) q23) (hr.mono (by decide)) q24 .nil (fun _ _ => by simp [VRs]) rfl) (am_cons (em_meth (ci := 0) rfl tk (em_var rfl (vis_by (by kernel_rfl))) (E.cls 10) (E.meth 15) (fn_cl (fun _ _ _ _ _ z => z) q21) (hr.mono (by decide)) q22 .nil (fun _ _ => by simp [VRs]) rfl (len_cons (fun _ _ _ _ => len_nil)) (am_cons em_int am_nil)) am_nil)))))) (.inl rfl)) (sm_cons (sm_set nd rfl (loc_by (by kernel_rfl)) (em_lst t false (am_cons (em_lam 0 rfl (M.ti K) TB hcd hmT huT (by kernel_rfl) (lamS_by (by kernel_rfl)) rfl) (am_cons (em_lam 1 rfl (M.ti K) TB hcd hmT huT (by kernel_rfl) (lamS_by (by kernel_rfl)) rfl) (am_cons (em_lam 2 rfl (M.ti K) TB hcd hmT huT (by kernel_rfl) (lamS_by (by kernel_rfl)) rfl) (am_cons (em_lam 3 rfl (M.ti K) TB hcd hmT huT (by kernel_rfl) (lamS_by (by kernel_rfl)) rfl) (am_cons (em_lam 4 rfl (M.ti K) TB hcd hmT huT (by kernel_rfl) (lamS_by (by kernel_rfl)) rfl) am_nil)))))) (.inl rfl)) (sm_cons (sm_set nd rfl (loc_by (by kernel_rfl)) (em_op op_plus (ok_plus t false) (em_var rfl (vis_by (by kernel_rfl))) (em_lst t false (am_cons (em_lam 5 rfl (M.ti K) TB hcd hmT huT (by kernel_rfl) (lamS_by (by kernel_rfl)) rfl) (am_cons (em_lam 6 rfl (M.ti K) TB hcd hmT huT (by kernel_rfl) (lamS_by (by kernel_rfl)) rfl) (am_cons (em_lam 7 rfl (M.ti K) TB hcd hmT huT (by kernel_rfl) (lamS_by (by kernel_rfl)) rfl) am_nil))))) (.inl rfl)) (sm_cons (sm_set nd rfl (loc_by (by kernel_rfl)) (em_op op_plus (ok_plus t false) (em_var rfl (vis_by (by kernel_rfl))) (em_lst t false (am_cons (em_lam 8 rfl (M.ti K) TB hcd hmT huT (by kernel_rfl) (lamS_by (by kernel_rfl)) rfl) (am_cons (em_lam 9 rfl (M.ti K) TB hcd hmT huT (by kernel_rfl) (lamS_by (by kernel_rfl)) rfl) (am_cons (em_lam 10 rfl (M.ti K) TB hcd hmT huT (by kernel_rfl) (lamS_by (by kernel_rfl)) rfl) am_nil))))) (.inl rfl)) (sm_cons (sm_set nd rfl (loc_by (by kernel_rfl)) (em_op op_plus (ok_plus t false) (em_var rfl (vis_by (by kernel_rfl))) (em_lst t false (am_cons (em_lam 11 rfl (M.ti K) TB hcd hmT huT (by kernel_rfl) (lamS_by (by kernel_rfl)) rfl) (am_cons (em_lam 12 rfl (M.ti K) TB hcd hmT huT (by kernel_rfl) (lamS_by (by kernel_rfl)) rfl) (am_cons (em_lam 13 rfl (M.ti K) TB hcd hmT huT (by kernel_rfl) (lamS_by (by kernel_rfl)) rfl) am_nil))))) (.inl rfl)) (sm_cons (sm_set nd rfl (loc_by (by kernel_rfl)) (em_op op_plus (ok_plus t false) (em_var rfl (vis_by (by kernel_rfl))) (em_lst t false (am_cons (em_lam 14 rfl (M.ti K) TB hcd hmT huT (by kernel_rfl) (lamS_by (by kernel_rfl)) rfl) am_nil))) (.inl rfl)) (sm_cons (sm_if (em_tcmp (op_neK rfl (hr.units)) ok_ne (em_lcI t false rfl nd (im_LT rfl (em_var rfl (vis_by (by kernel_rfl)))) (blkOk_by (own := [("f", 3)]) (by kernel_rfl)) rfl (by decide) (fun _ _ _ _ _ => (gm_name nd rfl (loc_by (by kernel_rfl)) (by first | exact .inl rfl | exact .inr rfl))) (fun _ _ _ _ _ _ _ back => (pts_toldE (g := M.g K) (tab := tab_law_plain) (c0 := 1) (k0 := 6) (Ng := [Str.ofString "what"]) (a := Str.ofString "what") E 16 rfl rfl (fun _ _ _ _ _ _ us hl => match us, hl with | [_], _ => rfl) q17 (C8.fnScope_by (by kernel_rfl)) rfl (vis_by (by kernel_rfl)) (by kernel_rfl) q18 q19 (fun _ => rfl) back LM (hr.mono (by decide)) rfl rfl (vis_by (by kernel_rfl)) rfl)) (fun _ _ _ _ _ => em_int)) (em_lst t false am_nil) rfl) (sm_one (sm_ret em_bl)) sm_nil) (sm_one (sm_ret (em_cmp (op_eqTK rfl (units140 hr)) ok_eqT (em_var rfl (vis_by (by kernel_rfl))) (em_lst t false (am_cons em_int (am_cons em_int (am_cons em_int (am_cons em_non (am_cons em_int (am_cons em_int (am_cons em_int (am_cons (em_disp t false (dm_cons em_str (em_tup t (am_cons em_int (am_cons em_int am_nil))) (dm_cons em_str (em_tup t (am_cons em_int (am_cons em_int am_nil))) dm_nil))) (am_cons em_int (am_cons em_int (am_cons (em_tup t (am_cons em_str (am_cons em_str am_nil))) (am_cons (em_tup t (am_cons (em_tup t (am_cons em_int (am_cons em_str (am_cons em_int (am_cons em_int am_nil))))) (am_cons (em_tup t (am_cons em_int (am_cons em_str (am_cons em_int (am_cons em_int am_nil))))) am_nil))) (am_cons em_int (am_cons (em_tup t (am_cons em_int (am_cons em_int am_nil))) (am_cons em_non (am_cons em_int (am_cons em_int am_nil)))))))))))))))))) rfl))))))))))))))
def m_law : MS := sSeq (sFor (miLT (mCall (fun xs => f_law_rounds (xs ++ [])) (mCons (mVar 0) (mCons (mC (.int 1)) (mNil))))) (gmName 1) (sSeq (sAsg (mOp (dPlus false) (mC (.int 1)) (mCall (fun xs => f_law_roll (xs ++ [])) (mCons (mVar 1) (mCons (mC (.int 40)) (mNil))))) (gmName 2)) (sSeq (sAsg (mTup (mCons (mOp (dPlus false) (mVar 2) (mCall (fun xs => f_law_roll (xs ++ [])) (mCons (mVar 1) (mCons (mC (.int 120)) (mNil))))) (mCons (mOp (dPlus false) (mC (.int 1)) (mCall (fun xs => f_law_roll (xs ++ [])) (mCons (mVar 1) (mCons (mC (.int 20)) (mNil))))) (mCons (mOp (dPlus false) (mC (.int 1)) (mCall (fun xs => f_law_roll (xs ++ [])) (mCons (mVar 1) (mCons (mC (.int 9)) (mNil))))) (mCons (mOp (dPlus false) (mC (.int 1)) (mCall (fun xs => f_law_roll (xs ++ [])) (mCons (mVar 1) (mCons (mC (.int 9)) (mNil))))) (mNil)))))) (gmTup 4 (gmCons (gmName 3) (gmCons (gmName 4) (gmCons (gmName 5) (gmCons (gmName 6) (gmNil))))))) (sSeq (sAsg (mTup (mCons (mMake 0 (fun xs => f_fall_init (xs ++ [])) (mCons (mVar 3) (mCons (mVar 4) (mCons (mVar 5) (mCons (mVar 2) (mCons (mVar 6) (mNil))))))) (mCons (mLst false (mNil)) (mNil)))) (gmTup 2 (gmCons (gmName 7) (gmCons (gmName 8) (gmNil))))) (sSeq (sAsg (mLc false (miCall rg1D (mCons (mC (.int 1200)) (mNil))) [24] (gmName 24) (mYes) (mCB bMax2 (mCons (mVar 2) (mCons (mOp (dMinus) (mVar 3) (mOp (dMul false) (mOp (dDiv) (mVar 24) (mVar 5)) (mVar 4))) (mNil))))) (gmName 9)) (sSeq (sAsg (mC (.int 0)) (gmName 10)) (sSeq (sFor (miCall rg1D (mCons (mCall (fun xs => f_law_roll (xs ++ [])) (mCons (mVar 1) (mCons (mC (.int 12)) (mNil)))) (mNil))) (gmName 11) (sSeq (sAsg (mTup (mCons (mOp ixD (mLst false (mCons (mC (.str "a")) (mCons (mC (.str "b")) (mCons (mC (.str "c")) (mCons (mC (.str "")) (mNil)))))) (mOp (dDiv) (mCall (fun xs => f_law_roll (xs ++ [])) (mCons (mVar 1) (mCons (mC (.int 13)) (mNil)))) (mC (.int 4)))) (mCons (mCall (fun xs => f_law_roll (xs ++ [])) (mCons (mVar 1) (mCons (mC (.int 4)) (mNil)))) (mCons (mOp (dMinus) (mOp (dPlus false) (mVar 10) (mCall (fun xs => f_law_roll (xs ++ [])) (mCons (mVar 1) (mCons (mC (.int 20)) (mNil))))) (mOp (dMul false) (mCB bInt (mCons (mOp dEq (mCall (fun xs => f_law_roll (xs ++ [])) (mCons (mVar 1) (mCons (mC (.int 16)) (mNil)))) (mC (.int 0))) (mNil))) (mC (.int 20)))) (mNil))))) (gmTup 3 (gmCons (gmName 12) (gmCons (gmName 13) (gmCons (gmName 14) (gmNil)))))) (sSeq (sAsg (mOp (dMinus) (mVar 6) (mCB bSum (mCons (mLc false (miLT (mVar 8)) [30] (gmName 30) (mYes) (mOp ixD (mVar 30) (mC (.int 2)))) (mNil)))) (gmName 15)) (sSeq (sAsg (mAndV (mOp dNe (mVar 12) (mC (.str ""))) (mAndV (mChain dLe dLe (mC (.int 1)) (mVar 13) (mVar 15)) (mOp dGe (mVar 14) (mVar 10)))) (gmName 16)) (sSeq (sAsg (mOp (dPlus false) (mVar 8) (mIf (mTru (mVar 16)) (mLst false (mCons (mTup (mCons (mVar 14) (mCons (mVar 12) (mCons (mVar 13) (mCons (mOp ixD (mVar 9) (mVar 14)) (mNil)))))) (mNil))) (mLst false (mNil)))) (gmName 8)) (sSeq (sAsg (mIf (mTru (mVar 16)) (mVar 14) (mVar 10)) (gmName 10)) (sSeq (sIf (mTB (mOp dNe (mTold 1 "FallError" (mMeth 0 "take_some" (fun xs => f_fall_take_some (xs ++ [])) (mVar 7) (mCons (mVar 12) (mCons (mVar 13) (mCons (mVar 14) (mNil)))))) (mIf (mTru (mVar 16)) (mOp (dMul false) (mVar 13) (mOp ixD (mVar 9) (mVar 14))) (mC (.str "FallError"))))) (sRet (mC (.bl false))) (sNext)) (sIf (mOr (mTB (mOp dNe (mFld [0] "takes" (mVar 7)) (mVar 8))) (mTB (mOp dNe (mMeth 0 "left_now" (fun xs => f_fall_left_now (xs ++ [])) (mVar 7) mNil) (mOp (dMinus) (mVar 6) (mCB bSum (mCons (mLc false (miLT (mVar 8)) [30] (gmName 30) (mYes) (mOp ixD (mVar 30) (mC (.int 2)))) (mNil))))))) (sRet (mC (.bl false))) (sNext))))))))) (sSeq (sAsg (mCall (fun xs => f_law_roll (xs ++ [])) (mCons (mVar 1) (mCons (mC (.int 180)) (mNil)))) (gmName 17)) (sSeq (sAsg (mLc false (miCall rg1D (mCons (mC (.int 1200)) (mNil))) [24] (gmName 24) (mTB (mOp dLe (mOp ixD (mVar 9) (mVar 24)) (mVar 17))) (mVar 24)) (gmName 18)) (sSeq (sIf (mTB (mOp dNe (mLc false (miCall rg3D (mCons (mC (.int 0)) (mCons (mC (.int 300)) (mCons (mC (.int 7)) (mNil))))) [24] (gmName 24) (mYes) (mMeth 0 "price_at" (fun xs => f_fall_price_at (xs ++ [])) (mVar 7) (mCons (mVar 24) (mNil)))) (mSlS false 7 (mVar 9) (mPS (mC (.int 0))) (mPS (mC (.int 300)))))) (sRet (mC (.bl false))) (sNext)) (sSeq (sIf (mOr (mTB (mOp dNe (mMeth 0 "floor_from" (fun xs => f_fall_floor_from (xs ++ [])) (mVar 7) mNil) (mBM isLst mtIndex (mVar 9) (mCons (mVar 2) (mNil))))) (mTB (mOp dNe (mMeth 0 "second_for" (fun xs => f_fall_second_for (xs ++ [])) (mVar 7) (mCons (mVar 17) (mNil))) (mIf (mTB (mOp dNe (mVar 18) (mLst false (mNil)))) (mOp ixD (mVar 18) (mC (.int 0))) (mC .non))))) (sRet (mC (.bl false))) (sNext)) (sSeq (sAsg (mCB (bSorted2 false) (mCons (mCB (bDict false) (mCons (mLc false (miLT (mVar 8)) [30] (gmName 30) (mYes) (mTup (mCons (mOp ixD (mVar 30) (mC (.int 1))) (mCons (mC (.int 1)) (mNil))))) (mNil))) (mNil))) (gmName 19)) (sSeq (sAsg (mLc false (miLT (mVar 19)) [12] (gmName 12) (mYes) (mTup (mCons (mVar 12) (mCons (mLc false (miLT (mVar 8)) [30] (gmName 30) (mTB (mOp dEq (mOp ixD (mVar 30) (mC (.int 1))) (mVar 12))) (mVar 30)) (mNil))))) (gmName 20)) (sSeq (sIf (mOr (mTB (mOp dNe (mItems (mMeth 0 "paid_by" (fun xs => f_fall_paid_by (xs ++ [])) (mVar 7) mNil)) (mLc false (miLT (mVar 20)) [12, 23] (gmTup 2 (gmCons (gmName 12) (gmCons (gmName 23) (gmNil)))) (mYes) (mTup (mCons (mVar 12) (mCons (mTup (mCons (mCB bSum (mCons (mLc false (miLT (mVar 23)) [30] (gmName 30) (mYes) (mOp ixD (mVar 30) (mC (.int 2)))) (mNil))) (mCons (mCB bSum (mCons (mLc false (miLT (mVar 23)) [30] (gmName 30) (mYes) (mOp (dMul false) (mOp ixD (mVar 30) (mC (.int 2))) (mOp ixD (mVar 30) (mC (.int 3))))) (mNil))) (mNil)))) (mNil))))))) (mOr (mTB (mOp dNe (mMeth 0 "whole_price" (fun xs => f_fall_whole_price (xs ++ [])) (mVar 7) mNil) (mCB bSum (mCons (mLc false (miLT (mVar 8)) [30] (gmName 30) (mYes) (mOp (dMul false) (mOp ixD (mVar 30) (mC (.int 2))) (mOp ixD (mVar 30) (mC (.int 3))))) (mNil))))) (mOr (mTB (mOp dNe (mMeth 0 "at_last_price" (fun xs => f_fall_at_last_price (xs ++ [])) (mVar 7) mNil) (mIf (mTB (mOp dNe (mVar 8) (mLst false (mNil)))) (mOp (dMul false) (mCB bSum (mCons (mLc false (miLT (mVar 8)) [30] (gmName 30) (mYes) (mOp ixD (mVar 30) (mC (.int 2)))) (mNil))) (mOp ixD (mOp ixD (mVar 8) (mNeg (mC (.int 1)))) (mC (.int 3)))) (mC (.int 0))))) (mTB (mOp dNe (mCB (bList false) (mCons (mMeth 0 "take_lines" (fun xs => f_fall_take_lines (xs ++ [])) (mVar 7) mNil) (mNil))) (mLc false (miLT (mVar 8)) [30] (gmName 30) (mYes) (mJoin (mC (.str " ")) (mLc false (miLT (mVar 30)) [29] (gmName 29) (mYes) (mCB bStr (mCons (mVar 29) (mNil))))))))))) (sRet (mC (.bl false))) (sNext)) (sSeq (sAsg (mLc false (miCall rg1D (mCons (mCall (fun xs => f_law_roll (xs ++ [])) (mCons (mVar 1) (mCons (mC (.int 6)) (mNil)))) (mNil))) [25] (gmName 25) (mYes) (mTup (mCons (mOp ixD (mLst false (mCons (mC (.str "a")) (mCons (mC (.str "b")) (mCons (mC (.str "c")) (mNil))))) (mCall (fun xs => f_law_roll (xs ++ [])) (mCons (mVar 1) (mCons (mC (.int 3)) (mNil))))) (mCons (mOp (dPlus false) (mC (.int 1)) (mCall (fun xs => f_law_roll (xs ++ [])) (mCons (mVar 1) (mCons (mC (.int 4)) (mNil))))) (mCons (mCall (fun xs => f_law_roll (xs ++ [])) (mCons (mVar 1) (mCons (mC (.int 180)) (mNil)))) (mNil)))))) (gmName 21)) (sSeq (sPar [22, 15] (mCons (mLst false (mNil)) (mCons (mVar 6) (mNil)))) (sSeq (sAsg (mCB (bSorted2 false) (mCons (mLc false (miEnum (mCons (mVar 21) (mNil))) [25, 31] (gmTup 2 (gmCons (gmName 25) (gmCons (gmName 31) (gmNil)))) (mTB (mOp dGe (mOp ixD (mVar 31) (mC (.int 2))) (mVar 2))) (mTup (mCons (mOp ixD (mLc false (miCall rg1D (mCons (mC (.int 1200)) (mNil))) [24] (gmName 24) (mTB (mOp dLe (mOp ixD (mVar 9) (mVar 24)) (mOp ixD (mVar 31) (mC (.int 2))))) (mVar 24)) (mC (.int 0))) (mCons (mVar 25) (mNil))))) (mNil))) (gmName 23)) (sSeq (sFor (miLT (mVar 23)) (gmTup 2 (gmCons (gmName 24) (gmCons (gmName 25) (gmNil)))) (sSeq (sAsg (mOp (dPlus false) (mVar 22) (mOp (dMul false) (mLst false (mCons (mTup (mCons (mVar 24) (mCons (mOp ixD (mOp ixD (mVar 21) (mVar 25)) (mC (.int 0))) (mCons (mCB bMin2 (mCons (mVar 15) (mCons (mOp ixD (mOp ixD (mVar 21) (mVar 25)) (mC (.int 1))) (mNil)))) (mCons (mOp ixD (mVar 9) (mVar 24)) (mNil)))))) (mNil))) (mCB bInt (mCons (mOp dGt (mVar 15) (mC (.int 0))) (mNil))))) (gmName 22)) (sAsg (mOp (dMinus) (mVar 15) (mCB bMin2 (mCons (mVar 15) (mCons (mOp ixD (mOp ixD (mVar 21) (mVar 25)) (mC (.int 1))) (mNil))))) (gmName 15)))) (sSeq (sIf (mTB (mOp dNe (mCB (bList false) (mCons (mCall (fun xs => f_fall_ends (xs ++ [])) (mCons (mMake 0 (fun xs => f_fall_init (xs ++ [])) (mCons (mVar 3) (mCons (mVar 4) (mCons (mVar 5) (mCons (mVar 2) (mCons (mVar 6) (mNil))))))) (mCons (mVar 21) (mNil)))) (mNil))) (mVar 22))) (sRet (mC (.bl false))) (sNext)) (sSeq (sPar [26, 24] (mCons (mLst false (mNil)) (mCons (mC (.int 0)) (mNil)))) (sSeq (sFor (miCall rg1D (mCons (mCall (fun xs => f_law_roll (xs ++ [])) (mCons (mVar 1) (mCons (mC (.int 4)) (mNil)))) (mNil))) (gmName 25) (sSeq (sAsg (mOp (dPlus false) (mOp (dPlus false) (mVar 24) (mC (.int 1))) (mCall (fun xs => f_law_roll (xs ++ [])) (mCons (mVar 1) (mCons (mC (.int 30)) (mNil))))) (gmName 24)) (sAsg (mOp (dPlus false) (mVar 26) (mLst false (mCons (mTup (mCons (mVar 24) (mCons (mCall (fun xs => f_law_roll (xs ++ [])) (mCons (mVar 1) (mCons (mC (.int 1001)) (mNil)))) (mNil)))) (mNil)))) (gmName 26)))) (sSeq (sAsg (mTup (mCons (mLst false (mNil)) (mCons (mIf (mTB (mOp dNe (mVar 18) (mLst false (mNil)))) (mOp ixD (mVar 18) (mC (.int 0))) (mC .non)) (mNil)))) (gmTup 2 (gmCons (gmName 27) (gmCons (gmName 28) (gmNil))))) (sSeq (sWhile (mTB (mOp dNotN (mVar 28) (mC .non))) (sSeq (sAsg (mOp (dPlus false) (mLst false (mCons (mC (.int 1000)) (mNil))) (mLc false (miLT (mVar 26)) [14, 32] (gmTup 2 (gmCons (gmName 14) (gmCons (gmName 32) (gmNil)))) (mTB (mOp dLe (mVar 14) (mVar 28))) (mVar 32))) (gmName 29)) (sSeq (sAsg (mOp (dPlus false) (mVar 27) (mLst false (mCons (mTup (mCons (mOp (dMul false) (mNeg (mOp ixD (mVar 29) (mNeg (mC (.int 1))))) (mOp (dMinus) (mVar 17) (mOp ixD (mVar 9) (mVar 28)))) (mCons (mVar 28) (mNil)))) (mNil)))) (gmName 27)) (sAsg (mIf (mTB (mOp dLt (mVar 28) (mBM isLst mtIndex (mVar 9) (mCons (mVar 2) (mNil))))) (mOp (dPlus false) (mVar 28) (mVar 5)) (mC .non)) (gmName 28))))) (sSeq (sIf (mTB (mOp dNe (mCall (fun xs => f_best_second (xs ++ [])) (mCons (mVar 7) (mCons (mVar 17) (mCons (mVar 26) (mNil))))) (mIf (mTB (mOp dNe (mVar 27) (mLst false (mNil)))) (mTup (mCons (mNeg (mOp ixD (mCB bMinG (mCons (mVar 27) (mNil))) (mC (.int 0)))) (mCons (mOp ixD (mCB bMinG (mCons (mVar 27) (mNil))) (mC (.int 1))) (mNil)))) (mC .non)))) (sRet (mC (.bl false))) (sNext)) (sIf (mAnd (mTB (mOp dNe (mVar 21) (mLst false (mNil)))) (mTB (mOp dNe (mCall (fun xs => f_gain_of (xs ++ [])) (mCons (mVar 7) (mCons (mOp ixD (mVar 21) (mC (.int 0))) (mCons (mVar 24) (mNil))))) (mOp (dMul false) (mOp ixD (mOp ixD (mVar 21) (mC (.int 0))) (mC (.int 1))) (mOp (dMinus) (mOp ixD (mOp ixD (mVar 21) (mC (.int 0))) (mC (.int 2))) (mOp ixD (mVar 9) (mVar 24))))))) (sRet (mC (.bl false))) (sNext)))))))))))))))))))))))))) (sRet (mCallN f_law_plain))
def f_law : FM := runF ([Str.ofString "script", Str.ofString "dice", Str.ofString "floor", Str.ofString "first", Str.ofString "drop", Str.ofString "seconds", Str.ofString "many", Str.ofString "fall", Str.ofString "own", Str.ofString "prices", Str.ofString "now", Str.ofString "step", Str.ofString "who", Str.ofString "some", Str.ofString "when", Str.ofString "left", Str.ofString "good", Str.ofString "price", Str.ofString "able", Str.ofString "names", Str.ofString "paid", Str.ofString "wishes", Str.ofString "found", Str.ofString "rows", Str.ofString "second", Str.ofString "k", Str.ofString "chances", Str.ofString "tries", Str.ofString "here", Str.ofString "part", Str.ofString "row", Str.ofString "wish", Str.ofString "share"] : List Str).length m_law
theorem ok_law {P : Program} {w : World} {K : PySem.W.Frag} {mg : Str → Option Value} {base h : Heap} (E : EV M w K mg base h) : Ok M P w K mg base 10 (dF 14 "law") ["script"] f_law := by
  have t := M.ti K
  obtain ⟨fd_law_plain, F_law_plain, q0⟩ := ok_law_plain E (P := P)
  have q1 : Binds K fd_law_plain [] [] := F_law_plain.bindsN fun _ _ _ _ _ _ us hl => match us, hl with | [], _ => rfl
  have q2 : mg "_law_plain" = some (.ref (He.fAd K ("_law_plain", none))) := E.glo 7
  obtain ⟨fd_law_rounds, F_law_rounds, q3⟩ := ok_law_rounds E (P := P)
  have q4 : Binds K fd_law_rounds ["script", "most"] [] := F_law_rounds.bindsN fun _ _ _ _ _ _ us hl => match us, hl with | [_, _], _ => rfl
  have q5 : mg "_law_rounds" = some (.ref (He.fAd K ("_law_rounds", none))) := E.glo 5
  obtain ⟨fd_gain_of, F_gain_of, q6⟩ := ok_gain_of E (P := P)
  have q7 : Binds K fd_gain_of ["fall", "wish", "second"] [] := F_gain_of.bindsN fun _ _ _ _ _ _ us hl => match us, hl with | [_, _, _], _ => rfl
  have q8 : mg "gain_of" = some (.ref (He.fAd K ("gain_of", none))) := E.glo 1
  obtain ⟨fd_best_second, F_best_second, q9⟩ := ok_best_second E (P := P)
  have q10 : Binds K fd_best_second ["fall", "most", "chances"] [] := F_best_second.bindsN fun _ _ _ _ _ _ us hl => match us, hl with | [_, _, _], _ => rfl
  have q11 : mg "best_second" = some (.ref (He.fAd K ("best_second", none))) := E.glo 2
  have q12 : mg "min" = none := E.free 43
  obtain ⟨fd_law_roll, F_law_roll, q13⟩ := ok_law_roll E (P := P)
  have q14 : Binds K fd_law_roll ["dice", "many"] [] := F_law_roll.bindsN fun _ _ _ _ _ _ us hl => match us, hl with | [_, _], _ => rfl
  have q15 : mg "_law_roll" = some (.ref (He.fAd K ("_law_roll", none))) := E.glo 4
  have q16 : mg "range" = none := E.free 44
  obtain ⟨fd_fall_ends, F_fall_ends, q17⟩ := ok_fall_ends E (P := P)
  have q18 : Binds K fd_fall_ends ["fall", "wishes"] [] := F_fall_ends.bindsN fun _ _ _ _ _ _ us hl => match us, hl with | [_, _], _ => rfl
  obtain ⟨fd_fall_init, F_fall_init, q19⟩ := ok_fall_init E (P := P)
  obtain ⟨ds_fall_init_6, hd_fall_init_6, q20⟩ := F_fall_init.binds1 (ps := ["self", "first", "fall", "seconds", "floor", "many"]) 6 1 (by simp [He.DefD.dvs, dM, dF]) (by simp [He.DefD.dvs, dM, dF]) fun _ _ _ _ _ _ _ us its h1 h2 => match us, h1, its, h2 with | [_, _, _, _, _, _], _, [_], _ => ⟨_, rfl, rfl⟩
  have q21 : mg "Fall" = some (.ref ((M.g K).cls 0)) := E.glo 9
  have q22 : mg "fall_ends" = some (.ref (He.fAd K ("fall_ends", none))) := E.glo 0
  have q23 : mg "list" = none := E.free 41
  have q24 : mg "int" = none := E.free 40
  have q25 : mg "enumerate" = none := E.free 39
  have q26 : mg "sorted" = none := E.free 45
  obtain ⟨fd_fall_take_lines, F_fall_take_lines, q27⟩ := ok_fall_take_lines E (P := P)
  have q28 : Binds K fd_fall_take_lines ["self"] [] := F_fall_take_lines.bindsN fun _ _ _ _ _ _ us hl => match us, hl with | [_], _ => rfl
  have q29 : mg "str" = none := E.free 46
  obtain ⟨fd_fall_at_last_price, F_fall_at_last_price, q30⟩ := ok_fall_at_last_price E (P := P)
  have q31 : Binds K fd_fall_at_last_price ["self"] [] := F_fall_at_last_price.bindsN fun _ _ _ _ _ _ us hl => match us, hl with | [_], _ => rfl
  have q32 : mg "sum" = none := E.free 47
  obtain ⟨fd_fall_whole_price, F_fall_whole_price, q33⟩ := ok_fall_whole_price E (P := P)
  have q34 : Binds K fd_fall_whole_price ["self"] [] := F_fall_whole_price.bindsN fun _ _ _ _ _ _ us hl => match us, hl with | [_], _ => rfl
  obtain ⟨fd_fall_paid_by, F_fall_paid_by, q35⟩ := ok_fall_paid_by E (P := P)
  have q36 : Binds K fd_fall_paid_by ["self"] [] := F_fall_paid_by.bindsN fun _ _ _ _ _ _ us hl => match us, hl with | [_], _ => rfl
  have q37 : mg "dict" = none := E.free 38
  obtain ⟨fd_fall_second_for, F_fall_second_for, q38⟩ := ok_fall_second_for E (P := P)
  have q39 : Binds K fd_fall_second_for ["self", "price"] [] := F_fall_second_for.bindsN fun _ _ _ _ _ _ us hl => match us, hl with | [_, _], _ => rfl
  obtain ⟨fd_fall_floor_from, F_fall_floor_from, q40⟩ := ok_fall_floor_from E (P := P)
  have q41 : Binds K fd_fall_floor_from ["self"] [] := F_fall_floor_from.bindsN fun _ _ _ _ _ _ us hl => match us, hl with | [_], _ => rfl
  obtain ⟨fd_fall_price_at, F_fall_price_at, q42⟩ := ok_fall_price_at E (P := P)
  have q43 : Binds K fd_fall_price_at ["self", "now"] [] := F_fall_price_at.bindsN fun _ _ _ _ _ _ us hl => match us, hl with | [_, _], _ => rfl
  obtain ⟨fd_fall_left_now, F_fall_left_now, q44⟩ := ok_fall_left_now E (P := P)
  have q45 : Binds K fd_fall_left_now ["self"] [] := F_fall_left_now.bindsN fun _ _ _ _ _ _ us hl => match us, hl with | [_], _ => rfl
  have q46 : ∀ c ∈ [0], AttrOk (M.g K).K ((M.g K).cls c) "takes" := by
    intro c hc
    simp only [List.mem_cons, List.not_mem_nil, or_false] at hc
    rcases hc with rfl
    · exact ⟨E.cls 10, E.noat 34⟩
  obtain ⟨TB, hmT, huT⟩ := E.tab 7 (q := (("law", none), ("law" : Str) ++ ".<locals>." ++ "<lambda>")) rfl
  obtain ⟨fd_fall_take_some, F_fall_take_some, q48⟩ := ok_fall_take_some E (P := P)
  have q49 : Binds K fd_fall_take_some ["self", "who", "many", "now"] [] := F_fall_take_some.bindsN fun _ _ _ _ _ _ us hl => match us, hl with | [_, _, _, _], _ => rfl
  have q50 : mg "_law_told" = some (.ref (He.fAd K ("_law_told", none))) := E.glo 6
  have q51 : mg "FallError" = some (.ref ((M.g K).exc 1)) := E.glo 25
  have q52 := E.exm 28 (x := "FallError") (y := "FallError") (b := true)
  have q53 : mg "max" = none := E.free 42
  have S : FnScope [Str.ofString "script", Str.ofString "dice", Str.ofString "floor", Str.ofString "first", Str.ofString "drop", Str.ofString "seconds", Str.ofString "many", Str.ofString "fall", Str.ofString "own", Str.ofString "prices", Str.ofString "now", Str.ofString "step", Str.ofString "who", Str.ofString "some", Str.ofString "when", Str.ofString "left", Str.ofString "good", Str.ofString "price", Str.ofString "able", Str.ofString "names", Str.ofString "paid", Str.ofString "wishes", Str.ofString "found", Str.ofString "rows", Str.ofString "second", Str.ofString "k", Str.ofString "chances", Str.ofString "tries", Str.ofString "here", Str.ofString "part", Str.ofString "row", Str.ofString "wish", Str.ofString "share"] ["script"] (dF 14 "law").scope := C8.fnScope_by (by kernel_rfl)
  have nd := S.nd
  unfold f_law
  refine E.ok (d := dF 14 "law") (N := [Str.ofString "script", Str.ofString "dice", Str.ofString "floor", Str.ofString "first", Str.ofString "drop", Str.ofString "seconds", Str.ofString "many", Str.ofString "fall", Str.ofString "own", Str.ofString "prices", Str.ofString "now", Str.ofString "step", Str.ofString "who", Str.ofString "some", Str.ofString "when", Str.ofString "left", Str.ofString "good", Str.ofString "price", Str.ofString "able", Str.ofString "names", Str.ofString "paid", Str.ofString "wishes", Str.ofString "found", Str.ofString "rows", Str.ofString "second", Str.ofString "k", Str.ofString "chances", Str.ofString "tries", Str.ofString "here", Str.ofString "part", Str.ofString "row", Str.ofString "wish", Str.ofString "share"]) (ps := ["script"]) (k := 9) (ms := m_law) 18 (by kernel_rfl) S fun cdv A outer s H E' hcd hr tk po => ?_
  unfold m_law
  exact (sm_cons (sm_for po rfl (im_LT rfl (em_call rfl tk q3 (hr.mono (by decide)) rfl q5 F_law_rounds.kp q4 .nil (fun _ _ => by simp [VRs]) rfl (len_cons (len_cons (fun _ _ _ _ => len_nil))) (am_cons (em_var rfl (vis_by (by kernel_rfl))) (am_cons em_int am_nil)))) (gm_name nd rfl (loc_by (by kernel_rfl)) (by first | exact .inl rfl | exact .inr rfl)) (sm_cons (sm_set nd rfl (loc_by (by kernel_rfl)) (em_op op_plus (ok_plus t false) em_int (em_call rfl tk q13 (hr.mono (by decide)) rfl q15 F_law_roll.kp q14 .nil (fun _ _ => by simp [VRs]) rfl (len_cons (len_cons (fun _ _ _ _ => len_nil))) (am_cons (em_var rfl (vis_by (by kernel_rfl))) (am_cons em_int am_nil)))) (.inl rfl)) (sm_cons (sm_asg (em_tup t (am_cons (em_op op_plus (ok_plus t false) (em_var rfl (vis_by (by kernel_rfl))) (em_call rfl tk q13 (hr.mono (by decide)) rfl q15 F_law_roll.kp q14 .nil (fun _ _ => by simp [VRs]) rfl (len_cons (len_cons (fun _ _ _ _ => len_nil))) (am_cons (em_var rfl (vis_by (by kernel_rfl))) (am_cons em_int am_nil)))) (am_cons (em_op op_plus (ok_plus t false) em_int (em_call rfl tk q13 (hr.mono (by decide)) rfl q15 F_law_roll.kp q14 .nil (fun _ _ => by simp [VRs]) rfl (len_cons (len_cons (fun _ _ _ _ => len_nil))) (am_cons (em_var rfl (vis_by (by kernel_rfl))) (am_cons em_int am_nil)))) (am_cons (em_op op_plus (ok_plus t false) em_int (em_call rfl tk q13 (hr.mono (by decide)) rfl q15 F_law_roll.kp q14 .nil (fun _ _ => by simp [VRs]) rfl (len_cons (len_cons (fun _ _ _ _ => len_nil))) (am_cons (em_var rfl (vis_by (by kernel_rfl))) (am_cons em_int am_nil)))) (am_cons (em_op op_plus (ok_plus t false) em_int (em_call rfl tk q13 (hr.mono (by decide)) rfl q15 F_law_roll.kp q14 .nil (fun _ _ => by simp [VRs]) rfl (len_cons (len_cons (fun _ _ _ _ => len_nil))) (am_cons (em_var rfl (vis_by (by kernel_rfl))) (am_cons em_int am_nil)))) am_nil))))) (gm_tup (n := 4) rfl rfl (gm_cons (gm_name nd rfl (loc_by (by kernel_rfl)) (by first | exact .inl rfl | exact .inr rfl)) (gm_cons (gm_name nd rfl (loc_by (by kernel_rfl)) (by first | exact .inl rfl | exact .inr rfl)) (gm_cons (gm_name nd rfl (loc_by (by kernel_rfl)) (by first | exact .inl rfl | exact .inr rfl)) (gm_cons (gm_name nd rfl (loc_by (by kernel_rfl)) (by first | exact .inl rfl | exact .inr rfl)) gm_nil)))) rfl)) (sm_cons (sm_asg (em_tup t (am_cons (em_make (ci := 0) t rfl tk (E.mkr 11) q19 (hr.mono (by decide)) rfl q21 q20 hd_fall_init_6 (fun _ _ => by simp [VRs, VR, He.DefD.dvs, dM, dF, He.Dv.v]) rfl (len_cons (len_cons (len_cons (len_cons (len_cons (fun _ _ _ _ => len_nil)))))) (am_cons (em_var rfl (vis_by (by kernel_rfl))) (am_cons (em_var rfl (vis_by (by kernel_rfl))) (am_cons (em_var rfl (vis_by (by kernel_rfl))) (am_cons (em_var rfl (vis_by (by kernel_rfl))) (am_cons (em_var rfl (vis_by (by kernel_rfl))) am_nil)))))) (am_cons (em_lst t false am_nil) am_nil))) (gm_tup (n := 2) rfl rfl (gm_cons (gm_name nd rfl (loc_by (by kernel_rfl)) (by first | exact .inl rfl | exact .inr rfl)) (gm_cons (gm_name nd rfl (loc_by (by kernel_rfl)) (by first | exact .inl rfl | exact .inr rfl)) gm_nil)) rfl)) (sm_cons (sm_set nd rfl (loc_by (by kernel_rfl)) (em_lc t false rfl nd (im_rg1 rfl q16 (am_cons em_int am_nil)) (blkOk_by (own := [("second", 24)]) (by kernel_rfl)) rfl (by decide) (fun _ _ _ _ _ => (gm_name nd rfl (loc_by (by kernel_rfl)) (by first | exact .inl rfl | exact .inr rfl))) (fun _ _ _ _ _ => ts_nil) (fun _ _ _ _ _ => (em_callB (call_max2 rfl) k_max2 rfl q53 boot_max (am_cons (em_var rfl (vis_by (by kernel_rfl))) (am_cons (em_op op_sub ok_minus (em_var rfl (vis_by (by kernel_rfl))) (em_op op_times (ok_mul t false) (em_op op_fdiv ok_div (em_var rfl (vis_by (by kernel_rfl))) (em_var rfl (vis_by (by kernel_rfl)))) (em_var rfl (vis_by (by kernel_rfl))))) am_nil))))) (.inl rfl)) (sm_cons (sm_set nd rfl (loc_by (by kernel_rfl)) em_int (.inl rfl)) (sm_cons (sm_for po rfl (im_rg1 rfl q16 (am_cons (em_call rfl tk q13 (hr.mono (by decide)) rfl q15 F_law_roll.kp q14 .nil (fun _ _ => by simp [VRs]) rfl (len_cons (len_cons (fun _ _ _ _ => len_nil))) (am_cons (em_var rfl (vis_by (by kernel_rfl))) (am_cons em_int am_nil))) am_nil)) (gm_name nd rfl (loc_by (by kernel_rfl)) (by first | exact .inl rfl | exact .inr rfl)) (sm_cons (sm_asg (em_tup t (am_cons (em_ixS rfl (em_lst t false (am_cons em_str (am_cons em_str (am_cons em_str (am_cons em_str am_nil))))) (em_op op_fdiv ok_div (em_call rfl tk q13 (hr.mono (by decide)) rfl q15 F_law_roll.kp q14 .nil (fun _ _ => by simp [VRs]) rfl (len_cons (len_cons (fun _ _ _ _ => len_nil))) (am_cons (em_var rfl (vis_by (by kernel_rfl))) (am_cons em_int am_nil))) em_int) (fun _ _ => rfl)) (am_cons (em_call rfl tk q13 (hr.mono (by decide)) rfl q15 F_law_roll.kp q14 .nil (fun _ _ => by simp [VRs]) rfl (len_cons (len_cons (fun _ _ _ _ => len_nil))) (am_cons (em_var rfl (vis_by (by kernel_rfl))) (am_cons em_int am_nil))) (am_cons (em_op op_sub ok_minus (em_op op_plus (ok_plus t false) (em_var rfl (vis_by (by kernel_rfl))) (em_call rfl tk q13 (hr.mono (by decide)) rfl q15 F_law_roll.kp q14 .nil (fun _ _ => by simp [VRs]) rfl (len_cons (len_cons (fun _ _ _ _ => len_nil))) (am_cons (em_var rfl (vis_by (by kernel_rfl))) (am_cons em_int am_nil)))) (em_op op_times (ok_mul t false) (em_callTy call_int1 k_int rfl q24 boot_int (am_cons (em_cmp (op_eqK rfl (hr.units)) ok_eq (em_call rfl tk q13 (hr.mono (by decide)) rfl q15 F_law_roll.kp q14 .nil (fun _ _ => by simp [VRs]) rfl (len_cons (len_cons (fun _ _ _ _ => len_nil))) (am_cons (em_var rfl (vis_by (by kernel_rfl))) (am_cons em_int am_nil))) em_int rfl) am_nil)) em_int)) am_nil)))) (gm_tup (n := 3) rfl rfl (gm_cons (gm_name nd rfl (loc_by (by kernel_rfl)) (by first | exact .inl rfl | exact .inr rfl)) (gm_cons (gm_name nd rfl (loc_by (by kernel_rfl)) (by first | exact .inl rfl | exact .inr rfl)) (gm_cons (gm_name nd rfl (loc_by (by kernel_rfl)) (by first | exact .inl rfl | exact .inr rfl)) gm_nil))) rfl)) (sm_cons (sm_set nd rfl (loc_by (by kernel_rfl)) (em_op op_sub ok_minus (em_var rfl (vis_by (by kernel_rfl))) (em_callB (c_sum rfl rfl) k_sum rfl q32 boot_sum (am_cons (em_lc t false rfl nd (im_LT rfl (em_var rfl (vis_by (by kernel_rfl)))) (blkOk_by (own := [("row", 30)]) (by kernel_rfl)) rfl (by decide) (fun _ _ _ _ _ => (gm_name nd rfl (loc_by (by kernel_rfl)) (by first | exact .inl rfl | exact .inr rfl))) (fun _ _ _ _ _ => ts_nil) (fun _ _ _ _ _ => (em_ixS rfl (em_var rfl (vis_by (by kernel_rfl))) em_int (fun _ _ => rfl)))) am_nil))) (.inl rfl)) (sm_cons (sm_set nd rfl (loc_by (by kernel_rfl)) (em_andV rfl (em_cmp (op_neK rfl (hr.units)) ok_ne (em_var rfl (vis_by (by kernel_rfl))) em_str rfl) (em_andV rfl (em_chain op_le op_le ok_le ok_le em_int (em_var rfl (vis_by (by kernel_rfl))) (em_var rfl (vis_by (by kernel_rfl))) rfl) (em_oneV (em_cmp op_ge ok_ge (em_var rfl (vis_by (by kernel_rfl))) (em_var rfl (vis_by (by kernel_rfl))) rfl)))) (.inl rfl)) (sm_cons (sm_set nd rfl (loc_by (by kernel_rfl)) (em_op op_plus (ok_plus t false) (em_var rfl (vis_by (by kernel_rfl))) (em_ifE (em_tru rfl (em_var rfl (vis_by (by kernel_rfl))) (fun _ => rfl)) (em_lst t false (am_cons (em_tup t (am_cons (em_var rfl (vis_by (by kernel_rfl))) (am_cons (em_var rfl (vis_by (by kernel_rfl))) (am_cons (em_var rfl (vis_by (by kernel_rfl))) (am_cons (em_ixS rfl (em_var rfl (vis_by (by kernel_rfl))) (em_var rfl (vis_by (by kernel_rfl))) (fun _ _ => rfl)) am_nil))))) am_nil)) (em_lst t false am_nil))) (.inl rfl)) (sm_cons (sm_set nd rfl (loc_by (by kernel_rfl)) (em_ifE (em_tru rfl (em_var rfl (vis_by (by kernel_rfl))) (fun _ => rfl)) (em_var rfl (vis_by (by kernel_rfl))) (em_var rfl (vis_by (by kernel_rfl)))) (.inl rfl)) (sm_cons (sm_if (em_tcmp (op_neK rfl (hr.units)) ok_ne (em_toldD (g := M.g K) (c0 := 1) (k0 := 6) (Ng := [Str.ofString "what"]) (a := Str.ofString "what") E 16 rfl rfl (fun _ _ _ _ _ _ us hl => match us, hl with | [_], _ => rfl) q50 (C8.fnScope_by (by kernel_rfl)) rfl (vis_by (by kernel_rfl)) (by kernel_rfl) q51 q52 (fun _ => rfl) rfl TB hcd hmT huT (hr.mono (by decide)) (lamS_by (by kernel_rfl)) rfl (fun _ _ _ _ _ => rfl) (fun A2 outer2 s2 H2 E2 f2 c2 hr2 tk2 => (em_meth (ci := 0) rfl tk2 (em_var rfl (vis_by (by kernel_rfl))) (E.cls 10) (E.meth 17) q48 (hr2.mono (by decide)) q49 .nil (fun _ _ => by simp [VRs]) rfl (len_cons (len_cons (len_cons (fun _ _ _ _ => len_nil)))) (am_cons (em_var rfl (vis_by (by kernel_rfl))) (am_cons (em_var rfl (vis_by (by kernel_rfl))) (am_cons (em_var rfl (vis_by (by kernel_rfl))) am_nil))))) rfl) (em_ifE (em_tru rfl (em_var rfl (vis_by (by kernel_rfl))) (fun _ => rfl)) (em_op op_times (ok_mul t false) (em_var rfl (vis_by (by kernel_rfl))) (em_ixS rfl (em_var rfl (vis_by (by kernel_rfl))) (em_var rfl (vis_by (by kernel_rfl))) (fun _ _ => rfl))) em_str) rfl) (sm_one (sm_ret em_bl)) sm_nil) (sm_one (sm_if (em_pw (em_or (em_tcmp (op_neK rfl (hr.units)) ok_ne (em_fld [0] rfl q46 (em_var rfl (vis_by (by kernel_rfl))) rfl) (em_var rfl (vis_by (by kernel_rfl))) rfl) (em_or1 (em_tcmp (op_neK rfl (hr.units)) ok_ne (em_meth0 (ci := 0) rfl tk (em_var rfl (vis_by (by kernel_rfl))) (E.cls 10) (E.meth 16) q44 (hr.mono (by decide)) q45 .nil (fun _ _ => by simp [VRs]) rfl) (em_op op_sub ok_minus (em_var rfl (vis_by (by kernel_rfl))) (em_callB (c_sum rfl rfl) k_sum rfl q32 boot_sum (am_cons (em_lc t false rfl nd (im_LT rfl (em_var rfl (vis_by (by kernel_rfl)))) (blkOk_by (own := [("row", 30)]) (by kernel_rfl)) rfl (by decide) (fun _ _ _ _ _ => (gm_name nd rfl (loc_by (by kernel_rfl)) (by first | exact .inl rfl | exact .inr rfl))) (fun _ _ _ _ _ => ts_nil) (fun _ _ _ _ _ => (em_ixS rfl (em_var rfl (vis_by (by kernel_rfl))) em_int (fun _ _ => rfl)))) am_nil))) rfl)))) (sm_one (sm_ret em_bl)) sm_nil))))))))) (sm_cons (sm_set nd rfl (loc_by (by kernel_rfl)) (em_call rfl tk q13 (hr.mono (by decide)) rfl q15 F_law_roll.kp q14 .nil (fun _ _ => by simp [VRs]) rfl (len_cons (len_cons (fun _ _ _ _ => len_nil))) (am_cons (em_var rfl (vis_by (by kernel_rfl))) (am_cons em_int am_nil))) (.inl rfl)) (sm_cons (sm_setLc t false rfl nd rfl rfl (sw_true rfl rfl rfl rfl) (im_rg1 rfl q16 (am_cons em_int am_nil)) (blkOk_by (own := [("second", 24)]) (by kernel_rfl)) rfl (by decide) (fun _ _ _ _ _ => (gm_name nd rfl (loc_by (by kernel_rfl)) (by first | exact .inl rfl | exact .inr rfl))) (fun _ _ _ _ _ => (ts_one (em_tcmp op_le ok_le (em_ixS rfl (em_var rfl (vis_by (by kernel_rfl))) (em_var rfl (vis_by (by kernel_rfl))) (fun _ _ => rfl)) (em_var rfl (vis_by (by kernel_rfl))) rfl))) (fun _ _ _ _ _ => (em_var rfl (vis_by (by kernel_rfl))))) (sm_cons (sm_if (em_tcmp (op_neK rfl (hr.units)) ok_ne (em_lc t false rfl nd (im_rg3 rfl q16 (am_cons em_int (am_cons em_int (am_cons em_int am_nil)))) (blkOk_by (own := [("second", 24)]) (by kernel_rfl)) rfl (by decide) (fun _ _ _ _ _ => (gm_name nd rfl (loc_by (by kernel_rfl)) (by first | exact .inl rfl | exact .inr rfl))) (fun _ _ _ _ _ => ts_nil) (fun _ _ _ _ _ => (em_meth (ci := 0) rfl LamX.takes0 (em_var rfl (vis_by (by kernel_rfl))) (E.cls 10) (E.meth 13) q42 (hr.mono (by decide)) q43 .nil (fun _ _ => by simp [VRs]) rfl (len_cons (fun _ _ _ _ => len_nil)) (am_cons (em_var rfl (vis_by (by kernel_rfl))) am_nil)))) (em_slS t false rfl (by decide) (em_var rfl (vis_by (by kernel_rfl))) (om_some em_int) (om_some em_int)) rfl) (sm_one (sm_ret em_bl)) sm_nil) (sm_cons (sm_if (em_pw (em_or (em_tcmp (op_neK rfl (hr.units)) ok_ne (em_meth0 (ci := 0) rfl tk (em_var rfl (vis_by (by kernel_rfl))) (E.cls 10) (E.meth 14) q40 (hr.mono (by decide)) q41 .nil (fun _ _ => by simp [VRs]) rfl) (em_index rfl (em_var rfl (vis_by (by kernel_rfl))) (am_cons (em_var rfl (vis_by (by kernel_rfl))) am_nil)) rfl) (em_or1 (em_tcmp (op_neK rfl (hr.units)) ok_ne (em_meth (ci := 0) rfl tk (em_var rfl (vis_by (by kernel_rfl))) (E.cls 10) (E.meth 15) q38 (hr.mono (by decide)) q39 .nil (fun _ _ => by simp [VRs]) rfl (len_cons (fun _ _ _ _ => len_nil)) (am_cons (em_var rfl (vis_by (by kernel_rfl))) am_nil)) (em_ifE (em_tcmp (op_neK rfl (hr.units)) ok_ne (em_var rfl (vis_by (by kernel_rfl))) (em_lst t false am_nil) rfl) (em_ixS rfl (em_var rfl (vis_by (by kernel_rfl))) em_int (fun _ _ => rfl)) em_non) rfl)))) (sm_one (sm_ret em_bl)) sm_nil) (sm_cons (sm_set nd rfl (loc_by (by kernel_rfl)) (em_callB (c_sorted2 rfl rfl) (k_sorted2 t false) rfl q26 boot_sorted (am_cons (em_callTy (c_dict rfl rfl) (k_dict t false) rfl q37 rfl (am_cons (em_lc t false rfl nd (im_LT rfl (em_var rfl (vis_by (by kernel_rfl)))) (blkOk_by (own := [("row", 30)]) (by kernel_rfl)) rfl (by decide) (fun _ _ _ _ _ => (gm_name nd rfl (loc_by (by kernel_rfl)) (by first | exact .inl rfl | exact .inr rfl))) (fun _ _ _ _ _ => ts_nil) (fun _ _ _ _ _ => (em_tup t (am_cons (em_ixS rfl (em_var rfl (vis_by (by kernel_rfl))) em_int (fun _ _ => rfl)) (am_cons em_int am_nil))))) am_nil)) am_nil)) (.inl rfl)) (sm_cons (sm_setLc t false rfl nd rfl rfl (sw_true rfl rfl rfl rfl) (im_LT rfl (em_var rfl (vis_by (by kernel_rfl)))) (blkOk_by (own := [("who", 12)]) (by kernel_rfl)) rfl (by decide) (fun _ _ _ _ _ => (gm_name nd rfl (loc_by (by kernel_rfl)) (by first | exact .inl rfl | exact .inr rfl))) (fun _ _ _ _ _ => ts_nil) (fun _ _ _ _ _ => (em_tup t (am_cons (em_var rfl (vis_by (by kernel_rfl))) (am_cons (em_lc t false rfl nd (im_LT rfl (em_var rfl (vis_by (by kernel_rfl)))) (blkOk_by (own := [("row", 30)]) (by kernel_rfl)) rfl (by decide) (fun _ _ _ _ _ => (gm_name nd rfl (loc_by (by kernel_rfl)) (by first | exact .inl rfl | exact .inr rfl))) (fun _ _ _ _ _ => (ts_one (em_tcmp (op_eqK rfl (hr.units)) ok_eq (em_ixS rfl (em_var rfl (vis_by (by kernel_rfl))) em_int (fun _ _ => rfl)) (em_var rfl (vis_by (by kernel_rfl))) rfl))) (fun _ _ _ _ _ => (em_var rfl (vis_by (by kernel_rfl))))) am_nil))))) (sm_cons (sm_if (em_pw (em_or (em_tcmp (op_neK rfl (hr.units)) ok_ne (em_items rfl rfl (em_meth0 (ci := 0) rfl tk (em_var rfl (vis_by (by kernel_rfl))) (E.cls 10) (E.meth 18) q35 (hr.mono (by decide)) q36 .nil (fun _ _ => by simp [VRs]) rfl) rfl q23 boot_list) (em_lc t false rfl nd (im_LT rfl (em_var rfl (vis_by (by kernel_rfl)))) (blkOk_by (own := [("who", 12), ("rows", 23)]) (by kernel_rfl)) rfl (by decide) (fun _ _ _ _ _ => (gm_tup (n := 2) rfl rfl (gm_cons (gm_name nd rfl (loc_by (by kernel_rfl)) (by first | exact .inl rfl | exact .inr rfl)) (gm_cons (gm_name nd rfl (loc_by (by kernel_rfl)) (by first | exact .inl rfl | exact .inr rfl)) gm_nil)) rfl)) (fun _ _ _ _ _ => ts_nil) (fun _ _ _ _ _ => (em_tup t (am_cons (em_var rfl (vis_by (by kernel_rfl))) (am_cons (em_tup t (am_cons (em_callB (c_sum rfl rfl) k_sum rfl q32 boot_sum (am_cons (em_lc t false rfl nd (im_LT rfl (em_var rfl (vis_by (by kernel_rfl)))) (blkOk_by (own := [("row", 30)]) (by kernel_rfl)) rfl (by decide) (fun _ _ _ _ _ => (gm_name nd rfl (loc_by (by kernel_rfl)) (by first | exact .inl rfl | exact .inr rfl))) (fun _ _ _ _ _ => ts_nil) (fun _ _ _ _ _ => (em_ixS rfl (em_var rfl (vis_by (by kernel_rfl))) em_int (fun _ _ => rfl)))) am_nil)) (am_cons (em_callB (c_sum rfl rfl) k_sum rfl q32 boot_sum (am_cons (em_lc t false rfl nd (im_LT rfl (em_var rfl (vis_by (by kernel_rfl)))) (blkOk_by (own := [("row", 30)]) (by kernel_rfl)) rfl (by decide) (fun _ _ _ _ _ => (gm_name nd rfl (loc_by (by kernel_rfl)) (by first | exact .inl rfl | exact .inr rfl))) (fun _ _ _ _ _ => ts_nil) (fun _ _ _ _ _ => (em_op op_times (ok_mul t false) (em_ixS rfl (em_var rfl (vis_by (by kernel_rfl))) em_int (fun _ _ => rfl)) (em_ixS rfl (em_var rfl (vis_by (by kernel_rfl))) em_int (fun _ _ => rfl))))) am_nil)) am_nil))) am_nil))))) rfl) (em_or (em_tcmp (op_neK rfl (hr.units)) ok_ne (em_meth0 (ci := 0) rfl tk (em_var rfl (vis_by (by kernel_rfl))) (E.cls 10) (E.meth 19) q33 (hr.mono (by decide)) q34 .nil (fun _ _ => by simp [VRs]) rfl) (em_callB (c_sum rfl rfl) k_sum rfl q32 boot_sum (am_cons (em_lc t false rfl nd (im_LT rfl (em_var rfl (vis_by (by kernel_rfl)))) (blkOk_by (own := [("row", 30)]) (by kernel_rfl)) rfl (by decide) (fun _ _ _ _ _ => (gm_name nd rfl (loc_by (by kernel_rfl)) (by first | exact .inl rfl | exact .inr rfl))) (fun _ _ _ _ _ => ts_nil) (fun _ _ _ _ _ => (em_op op_times (ok_mul t false) (em_ixS rfl (em_var rfl (vis_by (by kernel_rfl))) em_int (fun _ _ => rfl)) (em_ixS rfl (em_var rfl (vis_by (by kernel_rfl))) em_int (fun _ _ => rfl))))) am_nil)) rfl) (em_or (em_tcmp (op_neK rfl (hr.units)) ok_ne (em_meth0 (ci := 0) rfl tk (em_var rfl (vis_by (by kernel_rfl))) (E.cls 10) (E.meth 20) q30 (hr.mono (by decide)) q31 .nil (fun _ _ => by simp [VRs]) rfl) (em_ifE (em_tcmp (op_neK rfl (hr.units)) ok_ne (em_var rfl (vis_by (by kernel_rfl))) (em_lst t false am_nil) rfl) (em_op op_times (ok_mul t false) (em_callB (c_sum rfl rfl) k_sum rfl q32 boot_sum (am_cons (em_lc t false rfl nd (im_LT rfl (em_var rfl (vis_by (by kernel_rfl)))) (blkOk_by (own := [("row", 30)]) (by kernel_rfl)) rfl (by decide) (fun _ _ _ _ _ => (gm_name nd rfl (loc_by (by kernel_rfl)) (by first | exact .inl rfl | exact .inr rfl))) (fun _ _ _ _ _ => ts_nil) (fun _ _ _ _ _ => (em_ixS rfl (em_var rfl (vis_by (by kernel_rfl))) em_int (fun _ _ => rfl)))) am_nil)) (em_ixS rfl (em_ixS rfl (em_var rfl (vis_by (by kernel_rfl))) (em_neg em_int) (fun _ _ => rfl)) em_int (fun _ _ => rfl))) em_int) rfl) (em_or1 (em_tcmp (op_neK rfl (hr.units)) ok_ne (em_callTy (c_list rfl) (k_list t false) rfl q23 boot_list (am_cons (em_meth0 (ci := 0) rfl tk (em_var rfl (vis_by (by kernel_rfl))) (E.cls 10) (E.meth 21) q27 (hr.mono (by decide)) q28 .nil (fun _ _ => by simp [VRs]) rfl) am_nil)) (em_lc t false rfl nd (im_LT rfl (em_var rfl (vis_by (by kernel_rfl)))) (blkOk_by (own := [("row", 30)]) (by kernel_rfl)) rfl (by decide) (fun _ _ _ _ _ => (gm_name nd rfl (loc_by (by kernel_rfl)) (by first | exact .inl rfl | exact .inr rfl))) (fun _ _ _ _ _ => ts_nil) (fun _ _ _ _ _ => (em_join rfl em_str (em_lc t false rfl nd (im_LT rfl (em_var rfl (vis_by (by kernel_rfl)))) (blkOk_by (own := [("part", 29)]) (by kernel_rfl)) rfl (by decide) (fun _ _ _ _ _ => (gm_name nd rfl (loc_by (by kernel_rfl)) (by first | exact .inl rfl | exact .inr rfl))) (fun _ _ _ _ _ => ts_nil) (fun _ _ _ _ _ => (em_callTy call_str k_str rfl q29 rfl (am_cons (em_var rfl (vis_by (by kernel_rfl))) am_nil))))))) rfl)))))) (sm_one (sm_ret em_bl)) sm_nil) (sm_cons (sm_setLc t false rfl nd rfl rfl (sw_true rfl rfl rfl rfl) (im_rg1 rfl q16 (am_cons (em_call rfl tk q13 (hr.mono (by decide)) rfl q15 F_law_roll.kp q14 .nil (fun _ _ => by simp [VRs]) rfl (len_cons (len_cons (fun _ _ _ _ => len_nil))) (am_cons (em_var rfl (vis_by (by kernel_rfl))) (am_cons em_int am_nil))) am_nil)) (blkOk_by (own := [("k", 25)]) (by kernel_rfl)) rfl (by decide) (fun _ _ _ _ _ => (gm_name nd rfl (loc_by (by kernel_rfl)) (by first | exact .inl rfl | exact .inr rfl))) (fun _ _ _ _ _ => ts_nil) (fun _ _ _ _ _ => (em_tup t (am_cons (em_ixS rfl (em_lst t false (am_cons em_str (am_cons em_str (am_cons em_str am_nil)))) (em_call rfl LamX.takes0 q13 (hr.mono (by decide)) rfl q15 F_law_roll.kp q14 .nil (fun _ _ => by simp [VRs]) rfl (len_cons (len_cons (fun _ _ _ _ => len_nil))) (am_cons (em_var rfl (vis_by (by kernel_rfl))) (am_cons em_int am_nil))) (fun _ _ => rfl)) (am_cons (em_op op_plus (ok_plus t false) em_int (em_call rfl LamX.takes0 q13 (hr.mono (by decide)) rfl q15 F_law_roll.kp q14 .nil (fun _ _ => by simp [VRs]) rfl (len_cons (len_cons (fun _ _ _ _ => len_nil))) (am_cons (em_var rfl (vis_by (by kernel_rfl))) (am_cons em_int am_nil)))) (am_cons (em_call rfl LamX.takes0 q13 (hr.mono (by decide)) rfl q15 F_law_roll.kp q14 .nil (fun _ _ => by simp [VRs]) rfl (len_cons (len_cons (fun _ _ _ _ => len_nil))) (am_cons (em_var rfl (vis_by (by kernel_rfl))) (am_cons em_int am_nil))) am_nil)))))) (sm_cons (sm_par rfl nd rfl rfl (by decide) rfl rfl (am_cons (em_lst t false am_nil) (am_cons (em_var rfl (vis_by (by kernel_rfl))) am_nil)) rfl) (sm_cons (sm_set nd rfl (loc_by (by kernel_rfl)) (em_callB (c_sorted2 rfl rfl) (k_sorted2 t false) rfl q26 boot_sorted (am_cons (em_lc t false rfl nd (im_enum t rfl rfl q25 (am_cons (em_var rfl (vis_by (by kernel_rfl))) am_nil)) (blkOk_by (own := [("k", 25), ("wish", 31)]) (by kernel_rfl)) rfl (by decide) (fun _ _ _ _ _ => (gm_tup (n := 2) rfl rfl (gm_cons (gm_name nd rfl (loc_by (by kernel_rfl)) (by first | exact .inl rfl | exact .inr rfl)) (gm_cons (gm_name nd rfl (loc_by (by kernel_rfl)) (by first | exact .inl rfl | exact .inr rfl)) gm_nil)) rfl)) (fun _ _ _ _ _ => (ts_one (em_tcmp op_ge ok_ge (em_ixS rfl (em_var rfl (vis_by (by kernel_rfl))) em_int (fun _ _ => rfl)) (em_var rfl (vis_by (by kernel_rfl))) rfl))) (fun _ _ _ _ _ => (em_tup t (am_cons (em_ixS rfl (em_lc t false rfl nd (im_rg1 rfl q16 (am_cons em_int am_nil)) (blkOk_by (own := [("second", 24)]) (by kernel_rfl)) rfl (by decide) (fun _ _ _ _ _ => (gm_name nd rfl (loc_by (by kernel_rfl)) (by first | exact .inl rfl | exact .inr rfl))) (fun _ _ _ _ _ => (ts_one (em_tcmp op_le ok_le (em_ixS rfl (em_var rfl (vis_by (by kernel_rfl))) (em_var rfl (vis_by (by kernel_rfl))) (fun _ _ => rfl)) (em_ixS rfl (em_var rfl (vis_by (by kernel_rfl))) em_int (fun _ _ => rfl)) rfl))) (fun _ _ _ _ _ => (em_var rfl (vis_by (by kernel_rfl))))) em_int (fun _ _ => rfl)) (am_cons (em_var rfl (vis_by (by kernel_rfl))) am_nil))))) am_nil)) (.inl rfl)) (sm_cons (sm_for po rfl (im_LT rfl (em_var rfl (vis_by (by kernel_rfl)))) (gm_tup (n := 2) rfl rfl (gm_cons (gm_name nd rfl (loc_by (by kernel_rfl)) (by first | exact .inl rfl | exact .inr rfl)) (gm_cons (gm_name nd rfl (loc_by (by kernel_rfl)) (by first | exact .inl rfl | exact .inr rfl)) gm_nil)) rfl) (sm_cons (sm_set nd rfl (loc_by (by kernel_rfl)) (em_op op_plus (ok_plus t false) (em_var rfl (vis_by (by kernel_rfl))) (em_op op_times (ok_mul t false) (em_lst t false (am_cons (em_tup t (am_cons (em_var rfl (vis_by (by kernel_rfl))) (am_cons (em_ixS rfl (em_ixS rfl (em_var rfl (vis_by (by kernel_rfl))) (em_var rfl (vis_by (by kernel_rfl))) (fun _ _ => rfl)) em_int (fun _ _ => rfl)) (am_cons (em_callB (call_min2 rfl) k_min2 rfl q12 boot_min (am_cons (em_var rfl (vis_by (by kernel_rfl))) (am_cons (em_ixS rfl (em_ixS rfl (em_var rfl (vis_by (by kernel_rfl))) (em_var rfl (vis_by (by kernel_rfl))) (fun _ _ => rfl)) em_int (fun _ _ => rfl)) am_nil))) (am_cons (em_ixS rfl (em_var rfl (vis_by (by kernel_rfl))) (em_var rfl (vis_by (by kernel_rfl))) (fun _ _ => rfl)) am_nil))))) am_nil)) (em_callTy call_int1 k_int rfl q24 boot_int (am_cons (em_cmp op_gt ok_gt (em_var rfl (vis_by (by kernel_rfl))) em_int rfl) am_nil)))) (.inl rfl)) (sm_one (sm_set nd rfl (loc_by (by kernel_rfl)) (em_op op_sub ok_minus (em_var rfl (vis_by (by kernel_rfl))) (em_callB (call_min2 rfl) k_min2 rfl q12 boot_min (am_cons (em_var rfl (vis_by (by kernel_rfl))) (am_cons (em_ixS rfl (em_ixS rfl (em_var rfl (vis_by (by kernel_rfl))) (em_var rfl (vis_by (by kernel_rfl))) (fun _ _ => rfl)) em_int (fun _ _ => rfl)) am_nil)))) (.inl rfl))))) (sm_cons (sm_if (em_tcmp (op_neK rfl (hr.units)) ok_ne (em_callTy (c_list rfl) (k_list t false) rfl q23 boot_list (am_cons (em_call rfl tk q17 (hr.mono (by decide)) rfl q22 F_fall_ends.kp q18 .nil (fun _ _ => by simp [VRs]) rfl (len_cons (len_cons (fun _ _ _ _ => len_nil))) (am_cons (em_make (ci := 0) t rfl tk (E.mkr 11) q19 (hr.mono (by decide)) rfl q21 q20 hd_fall_init_6 (fun _ _ => by simp [VRs, VR, He.DefD.dvs, dM, dF, He.Dv.v]) rfl (len_cons (len_cons (len_cons (len_cons (len_cons (fun _ _ _ _ => len_nil)))))) (am_cons (em_var rfl (vis_by (by kernel_rfl))) (am_cons (em_var rfl (vis_by (by kernel_rfl))) (am_cons (em_var rfl (vis_by (by kernel_rfl))) (am_cons (em_var rfl (vis_by (by kernel_rfl))) (am_cons (em_var rfl (vis_by (by kernel_rfl))) am_nil)))))) (am_cons (em_var rfl (vis_by (by kernel_rfl))) am_nil))) am_nil)) (em_var rfl (vis_by (by kernel_rfl))) rfl) (sm_one (sm_ret em_bl)) sm_nil) (sm_cons (sm_par rfl nd rfl rfl (by decide) rfl rfl (am_cons (em_lst t false am_nil) (am_cons em_int am_nil)) rfl) (sm_cons (sm_for po rfl (im_rg1 rfl q16 (am_cons (em_call rfl tk q13 (hr.mono (by decide)) rfl q15 F_law_roll.kp q14 .nil (fun _ _ => by simp [VRs]) rfl (len_cons (len_cons (fun _ _ _ _ => len_nil))) (am_cons (em_var rfl (vis_by (by kernel_rfl))) (am_cons em_int am_nil))) am_nil)) (gm_name nd rfl (loc_by (by kernel_rfl)) (by first | exact .inl rfl | exact .inr rfl)) (sm_cons (sm_set nd rfl (loc_by (by kernel_rfl)) (em_op op_plus (ok_plus t false) (em_op op_plus (ok_plus t false) (em_var rfl (vis_by (by kernel_rfl))) em_int) (em_call rfl tk q13 (hr.mono (by decide)) rfl q15 F_law_roll.kp q14 .nil (fun _ _ => by simp [VRs]) rfl (len_cons (len_cons (fun _ _ _ _ => len_nil))) (am_cons (em_var rfl (vis_by (by kernel_rfl))) (am_cons em_int am_nil)))) (.inl rfl)) (sm_one (sm_set nd rfl (loc_by (by kernel_rfl)) (em_op op_plus (ok_plus t false) (em_var rfl (vis_by (by kernel_rfl))) (em_lst t false (am_cons (em_tup t (am_cons (em_var rfl (vis_by (by kernel_rfl))) (am_cons (em_call rfl tk q13 (hr.mono (by decide)) rfl q15 F_law_roll.kp q14 .nil (fun _ _ => by simp [VRs]) rfl (len_cons (len_cons (fun _ _ _ _ => len_nil))) (am_cons (em_var rfl (vis_by (by kernel_rfl))) (am_cons em_int am_nil))) am_nil))) am_nil))) (.inl rfl))))) (sm_cons (sm_asg (em_tup t (am_cons (em_lst t false am_nil) (am_cons (em_ifE (em_tcmp (op_neK rfl (hr.units)) ok_ne (em_var rfl (vis_by (by kernel_rfl))) (em_lst t false am_nil) rfl) (em_ixS rfl (em_var rfl (vis_by (by kernel_rfl))) em_int (fun _ _ => rfl)) em_non) am_nil))) (gm_tup (n := 2) rfl rfl (gm_cons (gm_name nd rfl (loc_by (by kernel_rfl)) (by first | exact .inl rfl | exact .inr rfl)) (gm_cons (gm_name nd rfl (loc_by (by kernel_rfl)) (by first | exact .inl rfl | exact .inr rfl)) gm_nil)) rfl)) (sm_cons (sm_while po (em_tcmp op_notN ok_notN (em_var rfl (vis_by (by kernel_rfl))) em_non rfl) (sm_cons (sm_set nd rfl (loc_by (by kernel_rfl)) (em_op op_plus (ok_plus t false) (em_lst t false (am_cons em_int am_nil)) (em_lc t false rfl nd (im_LT rfl (em_var rfl (vis_by (by kernel_rfl)))) (blkOk_by (own := [("when", 14), ("share", 32)]) (by kernel_rfl)) rfl (by decide) (fun _ _ _ _ _ => (gm_tup (n := 2) rfl rfl (gm_cons (gm_name nd rfl (loc_by (by kernel_rfl)) (by first | exact .inl rfl | exact .inr rfl)) (gm_cons (gm_name nd rfl (loc_by (by kernel_rfl)) (by first | exact .inl rfl | exact .inr rfl)) gm_nil)) rfl)) (fun _ _ _ _ _ => (ts_one (em_tcmp op_le ok_le (em_var rfl (vis_by (by kernel_rfl))) (em_var rfl (vis_by (by kernel_rfl))) rfl))) (fun _ _ _ _ _ => (em_var rfl (vis_by (by kernel_rfl)))))) (.inl rfl)) (sm_cons (sm_set nd rfl (loc_by (by kernel_rfl)) (em_op op_plus (ok_plus t false) (em_var rfl (vis_by (by kernel_rfl))) (em_lst t false (am_cons (em_tup t (am_cons (em_op op_times (ok_mul t false) (em_neg (em_ixS rfl (em_var rfl (vis_by (by kernel_rfl))) (em_neg em_int) (fun _ _ => rfl))) (em_op op_sub ok_minus (em_var rfl (vis_by (by kernel_rfl))) (em_ixS rfl (em_var rfl (vis_by (by kernel_rfl))) (em_var rfl (vis_by (by kernel_rfl))) (fun _ _ => rfl)))) (am_cons (em_var rfl (vis_by (by kernel_rfl))) am_nil))) am_nil))) (.inl rfl)) (sm_one (sm_set nd rfl (loc_by (by kernel_rfl)) (em_ifE (em_tcmp op_lt ok_lt (em_var rfl (vis_by (by kernel_rfl))) (em_index rfl (em_var rfl (vis_by (by kernel_rfl))) (am_cons (em_var rfl (vis_by (by kernel_rfl))) am_nil)) rfl) (em_op op_plus (ok_plus t false) (em_var rfl (vis_by (by kernel_rfl))) (em_var rfl (vis_by (by kernel_rfl)))) em_non) (.inl rfl)))))) (sm_cons (sm_if (em_tcmp (op_neK rfl (hr.units)) ok_ne (em_call rfl tk q9 (hr.mono (by decide)) rfl q11 F_best_second.kp q10 .nil (fun _ _ => by simp [VRs]) rfl (len_cons (len_cons (len_cons (fun _ _ _ _ => len_nil)))) (am_cons (em_var rfl (vis_by (by kernel_rfl))) (am_cons (em_var rfl (vis_by (by kernel_rfl))) (am_cons (em_var rfl (vis_by (by kernel_rfl))) am_nil)))) (em_ifE (em_tcmp (op_neK rfl (hr.units)) ok_ne (em_var rfl (vis_by (by kernel_rfl))) (em_lst t false am_nil) rfl) (em_tup t (am_cons (em_neg (em_ixS rfl (em_callB (c_minG rfl rfl (units140 hr)) k_minG rfl q12 boot_min (am_cons (em_var rfl (vis_by (by kernel_rfl))) am_nil)) em_int (fun _ _ => rfl))) (am_cons (em_ixS rfl (em_callB (c_minG rfl rfl (units140 hr)) k_minG rfl q12 boot_min (am_cons (em_var rfl (vis_by (by kernel_rfl))) am_nil)) em_int (fun _ _ => rfl)) am_nil))) em_non) rfl) (sm_one (sm_ret em_bl)) sm_nil) (sm_one (sm_if (em_pw (em_and (em_tcmp (op_neK rfl (hr.units)) ok_ne (em_var rfl (vis_by (by kernel_rfl))) (em_lst t false am_nil) rfl) (em_and1 (em_tcmp (op_neK rfl (hr.units)) ok_ne (em_call rfl tk q6 (hr.mono (by decide)) rfl q8 F_gain_of.kp q7 .nil (fun _ _ => by simp [VRs]) rfl (len_cons (len_cons (len_cons (fun _ _ _ _ => len_nil)))) (am_cons (em_var rfl (vis_by (by kernel_rfl))) (am_cons (em_ixS rfl (em_var rfl (vis_by (by kernel_rfl))) em_int (fun _ _ => rfl)) (am_cons (em_var rfl (vis_by (by kernel_rfl))) am_nil)))) (em_op op_times (ok_mul t false) (em_ixS rfl (em_ixS rfl (em_var rfl (vis_by (by kernel_rfl))) em_int (fun _ _ => rfl)) em_int (fun _ _ => rfl)) (em_op op_sub ok_minus (em_ixS rfl (em_ixS rfl (em_var rfl (vis_by (by kernel_rfl))) em_int (fun _ _ => rfl)) em_int (fun _ _ => rfl)) (em_ixS rfl (em_var rfl (vis_by (by kernel_rfl))) (em_var rfl (vis_by (by kernel_rfl))) (fun _ _ => rfl)))) rfl)))) (sm_one (sm_ret em_bl)) sm_nil)))))))))))))))))))))))))) (sm_one (sm_ret (em_callN rfl tk q0 (hr.mono (by decide)) rfl q2 F_law_plain.kp q1))))
abbrev R : PySem.W.OpenRow := PySem.W.OpenLaw.row PySem.Challenge.rw_auctionstack_k04_prices_that_fall
abbrev hk : PySem.W.Hook := He.hookX 6 M.fa M.fn [] M.tf M.ex
def ob (s : PySem.W.SharedT) : He.AlX := He.obsX 6 M.fa M.fn [] M.tf M.ex (HandSHeadRun.getT s)
theorem ob_eq (s : PySem.W.SharedT) : ob s = hk.obs s.abs := He.obsX_eq (HandSHeadRun.getT_eq s)
def loose : List Str := [Str.ofString "AuctionFault", Str.ofString "FallError", Str.ofString "Fall", Str.ofString "fall_ends", Str.ofString "gain_of", Str.ofString "best_second", Str.ofString "_law_dice", Str.ofString "_law_roll", Str.ofString "_law_rounds", Str.ofString "_law_told", Str.ofString "_law_plain"]
theorem run (w : World) : HandSHeadRun.RunEq R (PySem.W.view R.prog [14]) hk ob 3000 loose w := by
  intro os
  kernel_rfl
theorem plain_ok : ∃ h, f_law_plain [] [] = .ok (.bl true) h := by
  have e : (match f_law_plain [] [] with | .ok (.bl true) _ => true | _ => false) = true := by decide +kernel
  split at e
  · rename_i h q; exact ⟨h, q⟩
  · cases e
theorem finish (pl : Plain 63 f_law) : PySem.Challenge.rw_auctionstack_k04_prices_that_fall.Holds := by
  w_on; o_law
  refine HandSHeadRun.head_any (r := PySem.W.OpenLaw.row PySem.Challenge.rw_auctionstack_k04_prices_that_fall) (q := PySem.W.view (PySem.W.OpenLaw.row PySem.Challenge.rw_auctionstack_k04_prices_that_fall).prog [14]) (H := hk) (ob := ob) (M := 3000) (loose := loose) (d := HandSHeadRun.topDef (PySem.W.OpenLaw.row PySem.Challenge.rw_auctionstack_k04_prices_that_fall).prog 14) (kwd := []) ob_eq
    (by kernel_rfl) (fun s => by kernel_rfl) run (by kernel_rfl) (by kernel_rfl) (by kernel_rfl) (by rfl) (by first | assumption | decide +kernel) (by decide +kernel) ⟨rfl, rfl, rfl, rfl, rfl, by decide +kernel⟩ ?hw ?hc
  case hw => w_witness2
  case hc =>
    refine walk_ofX (l := PySem.Challenge.rw_auctionstack_k04_prices_that_fall) (n := 63) (k := 10) (x := "script") rfl (by decide) (by kernel_rfl) ⟨rfl, by decide, by decide⟩ ?F
    intro w mg fa h Y G hmg0
    obtain ⟨K, KX, c⟩ := Y
    have hmg : mg ("law" : PySem.Str) = some (.ref fa) := by
      have e : (HandSHeadRun.topDef (PySem.W.OpenLaw.row PySem.Challenge.rw_auctionstack_k04_prices_that_fall).prog 14).name = ("law" : PySem.Str) := by kernel_rfl
      rw [← e]
      exact hmg0
    exact ⟨K, KX, EV.law (M := M) (d := dF 14 "law") c KX G hmg rfl (He.glo_ok KX G (c.t.d.fact 8 (f := .glo "law") rfl)) (fun _ => rfl) (fun _ => rfl) (fun _ _ _ _ _ _ us hl => match us, hl with | [_], _ => rfl) 18 rfl (fun base E => ok_law E) pl⟩
end K04
-- skipped: _law_roll: self call: return int(_law_roll(dice, many // 100000000 + 1) * 100000000 + _law_roll(dice, 100000000)) % many
-- skipped: _law_told: Try: try:
end
section
set_option Elab.async false
set_option linter.all false
set_option maxRecDepth 100000
namespace K04
open PySem DV L2
theorem roll_ok {h : AH} {n : Nat} {a b m many : Int} (e : h[n]? = some (some (.lst [.int a, .int b, .int m]))) (h0 : 0 < many) (h1 : many ≤ 100000000) :
    ∃ r a' b' m', 0 ≤ r ∧ r < many ∧ f_law_roll [.ref n, .int many] h = .ok (.int r) (h.set n (some (.lst [.int a', .int b', .int m']))) := by
  have hn : n < List.length h := (List.getElem?_eq_some_iff.mp e).1
  have i0 : ∀ (x y z : Int), atI [D.int x, .int y, .int z] 0 = some (.int x) := fun _ _ _ => rfl
  have i1 : ∀ (x y z : Int), atI [D.int x, .int y, .int z] 1 = some (.int y) := fun _ _ _ => rfl
  have i2 : ∀ (x y z : Int), atI [D.int x, .int y, .int z] 2 = some (.int z) := fun _ _ _ => rfl
  have ns : ∀ v, (h.set n v)[n]? = some v := fun v => List.getElem?_set_self hn
  have x0 : ixN 3 0 = some 0 := rfl
  have x1 : ixN 3 1 = some 1 := rfl
  have x2 : ixN 3 2 = some 2 := rfl
  have m1 : ∀ x : Int, CMul x 48271 := fun x => .inr ⟨by decide, by decide⟩
  have m2 : ∀ x : Int, CMul x 69621 := fun x => .inr ⟨by decide, by decide⟩
  by_cases hc : m = 2 ∨ (m = 1 ∧ 0 < a)
  · refine ⟨a % many, a / many, b, m, Int.emod_nonneg _ (by omega), Int.emod_lt_of_pos _ h0, ?_⟩
    have hb : (if m = 2 then true else if m = 1 then decide (0 < a) else false) = true := by
      rcases hc with q | ⟨q, q2⟩
      · rw [if_pos q]
      · rw [if_neg (by omega), if_pos q]; exact decide_eq_true q2
    unfold f_law_roll runF m_law_roll
    rcases hc with q | ⟨q, q2⟩
    · subst q
      simp [startA, sSeq, sIf, mOr, mAnd, mTB, mOp, mVar, mC, bindR, ofE, seqS, ixD, getS, getL, e, asB, dEq_int, dGt_int, sAsg, mCB, mCons, mNil, bInt, gmName, ofG, gmSubD, setLD, setAt, listAt, i0, i1, i2, x0, x1, x2, sRet, dMod_int h0, dDiv_int h0 (by omega : many < 1073741824), sNext]
    · subst q
      simp [startA, sSeq, sIf, mOr, mAnd, mTB, mOp, mVar, mC, bindR, ofE, seqS, ixD, getS, getL, e, asB, dEq_int, dGt_int, sAsg, mCB, mCons, mNil, bInt, gmName, ofG, gmSubD, setLD, setAt, listAt, i0, i1, i2, x0, x1, x2, sRet, dMod_int h0, dDiv_int h0 (by omega : many < 1073741824), sNext, q2]
  · have h2 : ¬ m = 2 := fun z => hc (.inl z)
    refine ⟨(a * 48271 + b * 69621 + 11) % 2147483647 / 7 % many, (a * 48271 + b * 69621 + 11) % 2147483647, b + 1, 0, Int.emod_nonneg _ (by omega), Int.emod_lt_of_pos _ h0, ?_⟩
    unfold f_law_roll runF m_law_roll
    by_cases h3 : m = 1
    · have h4 : ¬ 0 < a := fun z => hc (.inr ⟨h3, z⟩)
      subst h3
      simp [startA, sSeq, sIf, mOr, mAnd, mTB, mOp, mVar, mC, bindR, ofE, seqS, ixD, getS, getL, e, asB, dEq_int, dGt_int, sAsg, mCB, mCons, mNil, bInt, gmName, ofG, gmSubD, setLD, setAt, listAt, i0, i1, i2, x0, x1, x2, sRet, dMod_int h0, dMod_int (by decide : (0 : Int) < 2147483647), dDiv_int (by decide : (0 : Int) < 7) (by decide), dMul_int (m1 _), dMul_int (m2 _), dPlus_int, sNext, h4, ns, h1, Int.not_lt.mpr h1]
    · simp [startA, sSeq, sIf, mOr, mAnd, mTB, mOp, mVar, mC, bindR, ofE, seqS, ixD, getS, getL, e, asB, dEq_int, dGt_int, sAsg, mCB, mCons, mNil, bInt, gmName, ofG, gmSubD, setLD, setAt, listAt, i0, i1, i2, x0, x1, x2, sRet, dMod_int h0, dMod_int (by decide : (0 : Int) < 2147483647), dDiv_int (by decide : (0 : Int) < 7) (by decide), dMul_int (m1 _), dMul_int (m2 _), dPlus_int, sNext, h2, h3, ns, h1, Int.not_lt.mpr h1]
end K04
end
section
set_option Elab.async false
set_option linter.all false
set_option maxRecDepth 100000
namespace K04
open PySem DV L2
theorem dice_ok (c : Int) (h : AH) : ∃ a b m : Int, f_law_dice [.int c] h = .ok (.ref h.length) (h ++ [some (.lst [.int a, .int b, .int m])]) := by
  have p18 : dPow (.int 10) (.int 18) = fun h => Rv.ok (.int 1000000000000000000) h := by
    funext h
    simp [dPow, dInt, okIf, CPow]
  have z3 : ∀ x : Nat, x = 3 → x ≤ sizeLine := fun x e => by rw [e, sizeLine_eq]; omega
  have s3 : 3 ≤ sizeLine := by rw [sizeLine_eq]; omega
  unfold f_law_dice runF m_law_dice
  by_cases h1 : -10 < c
  · by_cases h2 : c < 10
    · simp [startA, sSeq, sIf, mTB, mOp, mVar, mC, bindR, ofE, seqS, asB, mChain, dMinus_int, dLt_int, h1, h2, sRet, mLst, mCB, mCons, mNil, bAbs, mkL, okIf, s3]
    · simp [startA, sSeq, sIf, mTB, mOp, mVar, mC, bindR, ofE, seqS, asB, mChain, dMinus_int, dLt_int, h1, h2, sRet, mLst, mCB, mCons, mNil, bInt, mkL, okIf, sNext, dMod_int, dPlus_int, dGe_int, p18, s3]
  · simp [startA, sSeq, sIf, mTB, mOp, mVar, mC, bindR, ofE, seqS, asB, mChain, dMinus_int, dLt_int, h1, sRet, mLst, mCB, mCons, mNil, bInt, mkL, okIf, sNext, dMod_int, dPlus_int, dGe_int, p18, s3]
end K04
end
section
set_option Elab.async false
set_option linter.all false
set_option maxRecDepth 100000
namespace K04
open PySem DV L2
theorem rounds_ok (ns : List Int) : ∃ a b m : Int, f_law_rounds [.scr ns, .int 1] [] = .ok (.lst [.ref 0]) [some (.lst [.int a, .int b, .int m])] := by
  have key : ∀ c : Int, ∃ a b m : Int, ∀ v, mLc false (miLT (mVar 2)) [3] (gmName 3) (mYes) (mCall (fun xs => f_law_dice (xs ++ [])) (mCons (mVar 3) (mNil))) [v, some (.int 1), some (.lst [.int c]), none] [] = .ok (.lst [.ref 0]) [some (.lst [.int a, .int b, .int m])] := fun c => by
    obtain ⟨a, b, m, e⟩ := dice_ok c []
    refine ⟨a, b, m, fun v => ?_⟩
    have s0 : (0 : Nat) < sizeLine := by rw [sizeLine_eq]; omega
    rw [mLc_eq (ds := [.int c]) (it := itOf (.lst [.int c])) (h1 := []) (by simp [miLT, mVar, bindR, itLT, getL]) (itIs_lst _) (by simp [bigN])]
    simp [bindR, compL, wipeA, gmName, mYes, noX, mCall, mCons, mVar, mNil, e, mkL, s0]
  have cut : ∀ (d : D) (ds : List D), cutD (d :: ds) none (some 1) = [d] := fun d ds => by
    unfold cutD
    simp [HT.sIx]
  unfold f_law_rounds runF m_law_rounds
  cases ns with
  | nil =>
    obtain ⟨a, b, m, e⟩ := key 0
    refine ⟨a, b, m, ?_⟩
    have s0 : 0 ≤ sizeLine := Nat.zero_le _
    have s1 : 1 ≤ sizeLine := by rw [sizeLine_eq]; omega
    have e1 : ∀ h, dEq (.lst []) (.lst []) h = .ok (.bl true) h := fun h => by simp [dEq, dEqB, toP, getL, allS, PyData.eqv, PyData.eqvAll]
    simp [-List.append_nil, startA, sSeq, sAsg, mSl, mVar, mPN, mPS, mC, bindR, ofE, ofG, seqS, gmName, slD, getL, cutD, mkL, sIf, mTB, mOp, mLst, mCons, mNil, okIf, s0, s1, e1, asB, sRet, e]
  | cons c r =>
    obtain ⟨a, b, m, e⟩ := key c
    refine ⟨a, b, m, ?_⟩
    have s0 : 0 ≤ sizeLine := Nat.zero_le _
    have e1 : ∀ h, dEq (.lst [.int c]) (.lst []) h = .ok (.bl false) h := fun h => by simp [dEq, dEqB, toP, getL, allS, PyData.eqv, PyData.eqvAll]
    simp [-List.append_nil, startA, sSeq, sAsg, mSl, mVar, mPN, mPS, mC, bindR, ofE, ofG, seqS, gmName, slD, getL, cut, mkL, sIf, mTB, mOp, mLst, mCons, mNil, okIf, s0, e1, asB, sRet, e, sNext]
end K04
end
section
set_option Elab.async false
set_option linter.all false
set_option maxRecDepth 100000
namespace K04
open PySem DV L2 SrtO
def dce (a b m : Int) : Option O := some (.lst [.int a, .int b, .int m])
/-- the dice lie at place 0 -/
def Dh (h : AH) : Prop := ∃ a b m : Int, h[0]? = some (dce a b m)
theorem Dh.set {h : AH} (d : Dh h) {a b m : Int} : Dh (h.set 0 (dce a b m)) := by
  obtain ⟨x, y, z, e⟩ := d
  exact ⟨a, b, m, List.getElem?_set_self (List.getElem?_eq_some_iff.mp e).1⟩
theorem Dh.app {h : AH} (d : Dh h) (x : Option O) : Dh (h ++ [x]) := by
  obtain ⟨a, y, z, e⟩ := d
  exact ⟨a, y, z, by rw [List.getElem?_append_left (List.getElem?_eq_some_iff.mp e).1, e]⟩
theorem roll' {h : AH} (d : Dh h) (many : Int) (h0 : 0 < many) (h1 : many ≤ 100000000) : ∃ r h', 0 ≤ r ∧ r < many ∧ Dh h' ∧ f_law_roll [.ref 0, .int many] h = .ok (.int r) h' := by
  have d' := d
  obtain ⟨a, b, m, e⟩ := d
  obtain ⟨r, a', b', m', p1, p2, p3⟩ := roll_ok e h0 h1
  exact ⟨r, _, p1, p2, d'.set, p3⟩
theorem rolls_loop (mg : MG) (me : ME) (N : Int) (σ : AS) (hst : ∀ (d : D) (h : AH), Dh h → ∃ r σ' h', 0 ≤ r ∧ r < N ∧ Dh h' ∧ mg d σ h = .ok σ' h ∧ me σ' h = .ok (.int r) h') : ∀ (ds : List D) (acc : List Int) (h : AH), Dh h → acc.length + ds.length ≤ 100 →
    ∃ xs h', xs.length = ds.length ∧ (∀ x ∈ xs, 0 ≤ x ∧ x < N) ∧ Dh h' ∧ compL mg mYes me ds σ (acc.map D.int) h = .ok ((acc ++ xs).map D.int) h'
  | [], acc, h, d, _ => ⟨[], h, rfl, by simp, d, by simp [compL]⟩
  | x :: ds, acc, h, d, hc => by
    simp only [List.length_cons] at hc
    obtain ⟨r, σ', h1, a1, a2, a3, a4, a5⟩ := hst x h d
    obtain ⟨xs, h2, b1, b2, b3, b4⟩ := rolls_loop mg me N σ hst ds (acc ++ [r]) h1 a3 (by simp; omega)
    refine ⟨r :: xs, h2, by simp [b1], fun y hy => ?_, b3, ?_⟩
    · rcases List.mem_cons.mp hy with rfl | hy
      · exact ⟨a1, a2⟩
      · exact b2 y hy
    · have s1 : (acc.map D.int).length < sizeLine := line3 (by simp; omega)
      rw [compL, a4]
      simp only [mYes_d, noX_ok, bindR_okS, if_true, a5, s1]
      rw [show acc.map D.int ++ [D.int r] = (acc ++ [r]).map D.int by simp, b4, List.append_assoc]
      rfl
end K04
end
section
set_option Elab.async false
set_option linter.all false
set_option maxRecDepth 100000
namespace K04
open PySem DV L2 SrtO
/-- what a fall is made of -/
structure FP where
  first : Int
  drop : Int
  secs : Int
  floor : Int
  many : Int
structure Gd (P : FP) : Prop where
  fl : 1 ≤ P.floor
  ff : P.floor ≤ P.first
  fb : P.first ≤ P.floor + 119
  fm : P.floor ≤ 40
  d1 : 1 ≤ P.drop
  d2 : P.drop ≤ 20
  s1 : 1 ≤ P.secs
  s2 : P.secs ≤ 9
  m1 : 1 ≤ P.many
  m2 : P.many ≤ 9
abbrev Take : Type := Int × Str × Int × Int
def tD (r : Take) : D := .tup [.int r.1, .str r.2.1, .int r.2.2.1, .int r.2.2.2]
def fsD (P : FP) (nt : Nat) (now : Int) : List (Str × D) := [("first", .int P.first), ("fall", .int P.drop), ("seconds", .int P.secs), ("floor", .int P.floor), ("many", .int P.many), ("takes", .ref nt), ("now", .int now)]
/-- a fall lies at n, its takes at nt -/
structure Fo (P : FP) (h : AH) (n nt : Nat) (T : List Take) (now : Int) : Prop where
  ins : h[n]? = some (some (.ins 0 (fsD P nt now)))
  tk : h[nt]? = some (some (.lst (T.map tD)))
variable {P : FP} {h : AH} {n nt : Nat} {T : List Take} {now : Int} {σ : AS}
theorem Fo.app (o : Fo P h n nt T now) (xs : AH) : Fo P (h ++ xs) n nt T now :=
  ⟨by rw [List.getElem?_append_left (List.getElem?_eq_some_iff.mp o.ins).1, o.ins], by rw [List.getElem?_append_left (List.getElem?_eq_some_iff.mp o.tk).1, o.tk]⟩
theorem Fo.getI (o : Fo P h n nt T now) : DV.getI h (.ref n) = some (0, fsD P nt now) := by simp only [DV.getI, o.ins]
theorem Fo.first (o : Fo P h n nt T now) : fldD [0] "first" (.ref n) h = .ok (.int P.first) h := by simp only [fldD, o.getI]; rfl
theorem Fo.drop (o : Fo P h n nt T now) : fldD [0] "fall" (.ref n) h = .ok (.int P.drop) h := by simp only [fldD, o.getI]; rfl
theorem Fo.secs (o : Fo P h n nt T now) : fldD [0] "seconds" (.ref n) h = .ok (.int P.secs) h := by simp only [fldD, o.getI]; rfl
theorem Fo.floor (o : Fo P h n nt T now) : fldD [0] "floor" (.ref n) h = .ok (.int P.floor) h := by simp only [fldD, o.getI]; rfl
theorem Fo.many (o : Fo P h n nt T now) : fldD [0] "many" (.ref n) h = .ok (.int P.many) h := by simp only [fldD, o.getI]; rfl
theorem Fo.takes (o : Fo P h n nt T now) : fldD [0] "takes" (.ref n) h = .ok (.ref nt) h := by simp only [fldD, o.getI]; rfl
theorem Fo.nowf (o : Fo P h n nt T now) : fldD [0] "now" (.ref n) h = .ok (.int now) h := by simp only [fldD, o.getI]; rfl
theorem Fo.rcv (o : Fo P h n nt T now) {m : Str} (hm : ((fsD P nt now).lookup m).isNone = true) : rcvD 0 m (.ref n) h = true := by simp only [rcvD, o.getI, hm]; rfl
@[simp] theorem rc1 : ((fsD P nt now).lookup ("price_at" : Str)).isNone = true := by rfl
@[simp] theorem rc2 : ((fsD P nt now).lookup ("floor_from" : Str)).isNone = true := by rfl
@[simp] theorem rc3 : ((fsD P nt now).lookup ("second_for" : Str)).isNone = true := by rfl
@[simp] theorem rc4 : ((fsD P nt now).lookup ("left_now" : Str)).isNone = true := by rfl
@[simp] theorem rc5 : ((fsD P nt now).lookup ("take_some" : Str)).isNone = true := by rfl
@[simp] theorem rc6 : ((fsD P nt now).lookup ("paid_by" : Str)).isNone = true := by rfl
@[simp] theorem rc7 : ((fsD P nt now).lookup ("whole_price" : Str)).isNone = true := by rfl
@[simp] theorem rc8 : ((fsD P nt now).lookup ("at_last_price" : Str)).isNone = true := by rfl
@[simp] theorem rc9 : ((fsD P nt now).lookup ("take_lines" : Str)).isNone = true := by rfl
def Pt (P : FP) (t : Int) : Int := max P.floor (P.first - t / P.secs * P.drop)
def Fc (P : FP) (p : Int) : Int := max 0 ((P.first - p + P.drop - 1) / P.drop) * P.secs
theorem price_at_ok (g : Gd P) (o : Fo P h n nt T now) {t : Int} (h0 : 0 ≤ t) : f_fall_price_at [.ref n, .int t] h = .ok (.int (Pt P t)) h := by
  have s1 := g.s1
  have s2 := g.s2
  have d1 := g.d1
  have d2 := g.d2
  unfold f_fall_price_at
  refine runF_rt ?_
  unfold m_fall_price_at
  rw [show startA _ _ = [some (.ref n), some (.int t)] from rfl]
  rw [seq_nx (if_no (h1 := h) (by simp [dLt_int]; omega))]
  refine ret_rt ?_
  simp [o.floor, o.first, o.secs, o.drop, dDiv_int (by omega : 0 < P.secs) (by omega), dMul_int (cmul_small (by omega) (by omega) : CMul (t / P.secs) P.drop), dMinus_int, bMax2_int, Pt]
theorem floor_from_ok (g : Gd P) (o : Fo P h n nt T now) : f_fall_floor_from [.ref n] h = .ok (.int (Fc P P.floor)) h := by
  have s1 := g.s1
  have s2 := g.s2
  have d1 := g.d1
  have d2 := g.d2
  have ff := g.ff
  have k0 : 0 ≤ (P.first - P.floor + P.drop - 1) / P.drop := Int.ediv_nonneg (by omega) (by omega)
  unfold f_fall_floor_from
  refine runF_rt ?_
  unfold m_fall_floor_from
  rw [show startA _ _ = [some (.ref n)] from rfl]
  refine ret_rt ?_
  simp [o.floor, o.first, o.secs, o.drop, dDiv_int (by omega : 0 < P.drop) (by omega), dMul_int (cmul_small (by omega) (by omega) : CMul _ P.secs), dMinus_int, dPlus_int, Fc, Int.max_eq_right k0]
def sfD (P : FP) (p : Int) : D := if p < P.floor then .non else .int (Fc P p)
theorem second_for_ok (g : Gd P) (o : Fo P h n nt T now) (p : Int) : f_fall_second_for [.ref n, .int p] h = .ok (sfD P p) h := by
  have s1 := g.s1
  have s2 := g.s2
  have d1 := g.d1
  have d2 := g.d2
  unfold f_fall_second_for
  refine runF_rt ?_
  unfold m_fall_second_for sfD
  rw [show startA _ _ = [some (.ref n), some (.int p)] from rfl]
  by_cases q : p < P.floor
  · simp [o.floor, dLt_int, q]
  · rw [if_neg q, seq_nx (if_no (h1 := h) (by simp [o.floor, dLt_int, q]))]
    refine ret_rt ?_
    simp [o.floor, o.first, o.secs, o.drop, dDiv_int (by omega : 0 < P.drop) (by omega), dMul_int (cmul_small (by omega) (by omega) : CMul _ P.secs), dMinus_int, dPlus_int, Fc, bMax2_int]
theorem ix_t2 (r : Take) (h : AH) : ixD (tD r) (.int 2) h = .ok (.int r.2.2.1) h := ix_tup2 (show (2 : Int) = ((2 : Nat) : Int) from rfl) rfl
theorem ix_t3 (r : Take) (h : AH) : ixD (tD r) (.int 3) h = .ok (.int r.2.2.2) h := ix_tup2 (show (3 : Int) = ((3 : Nat) : Int) from rfl) rfl
theorem ix_t1 (r : Take) (h : AH) : ixD (tD r) (.int 1) h = .ok (.str r.2.1) h := ix_tup2 (show (1 : Int) = ((1 : Nat) : Int) from rfl) rfl
def leftV (P : FP) (T : List Take) : Int := P.many - sumI (T.map fun r => r.2.2.1)
theorem left_now_ok (o : Fo P h n nt T now) (hl : T.length ≤ 100) : f_fall_left_now [.ref n] h = .ok (.int (leftV P T)) h := by
  unfold f_fall_left_now
  refine runF_rt ?_
  unfold m_fall_left_now
  rw [show startA _ _ = [some (.ref n), none] from rfl]
  refine ret_rt ?_
  have sm := gx_sum (mi := miLT (mFld [0] "takes" (mVar 0))) (vs := [1]) (mg := gmName 1) (me := mOp ixD (mVar 1) (mC (.int 2))) (σ := [some (.ref n), none]) (h := h) (h1 := h) (it := itOf (.ref nt)) (enc := tD) (f := fun r => r.2.2.1) T (by simp [o.takes, itLT_ref o.tk]) (itRef o.tk) (by omega) (fun r hr => ⟨[some (.ref n), some (tD r)], rfl, by simp [ix_t2]⟩)
  have mm : mFld [0] "many" (mVar 0) [some (.ref n), none] h = .ok (.int P.many) h := by simp [o.many]
  rw [mOp_d, mm, bindR_okS, sm, bindR_okS, dMinus_int]
  rfl
theorem whole_price_ok (o : Fo P h n nt T now) (hl : T.length ≤ 100) (hm : ∀ r ∈ T, 0 ≤ r.2.2.1 ∧ r.2.2.1 ≤ 9) : f_fall_whole_price [.ref n] h = .ok (.int (sumI (T.map fun r => r.2.2.1 * r.2.2.2))) h := by
  unfold f_fall_whole_price
  refine runF_rt ?_
  unfold m_fall_whole_price
  rw [show startA _ _ = [some (.ref n), none, none, none, none] from rfl]
  refine ret_rt ?_
  exact gx_sum (it := itOf (.ref nt)) (enc := tD) (f := fun r => r.2.2.1 * r.2.2.2) T (by simp [o.takes, itLT_ref o.tk]) (itRef o.tk) (by omega) (fun r hr => ⟨[some (.ref n), some (.int r.1), some (.str r.2.1), some (.int r.2.2.1), some (.int r.2.2.2)], by simp [tD, wipeA], by simp [dMul_int (cmul_left (hm r hr).1 (by have := (hm r hr).2; omega) : CMul r.2.2.1 r.2.2.2)]⟩)
def lastT (T : List Take) : Int := match T.getLast? with | some r => r.2.2.2 | none => 0
theorem takes_nil (o : Fo P h n nt T now) (ho : ∀ r ∈ T, PyData.strOk r.2.1 = true) : dNe (.ref nt) (.lst []) h = .ok (.bl (!T.isEmpty)) h := by
  have := dNe_lst_nil (enc := tD) (f := fun r => PyData.tuple [.int r.1, .str r.2.1, .int r.2.2.1, .int r.2.2.2]) (h := h) (xs := T) (fun r hr => by simp [tD, toP, allS, ho r hr])
  unfold dNe dEqB at this ⊢
  rw [show toP 20 h (.ref nt) = toP 20 h (.lst (T.map tD)) by simp only [toP, getL, o.tk]]
  exact this
theorem last_or {α : Type} (xs : List α) : (xs = [] ∧ xs.getLast? = none) ∨ ∃ l x, xs = l ++ [x] ∧ xs.getLast? = some x := by
  cases h : xs.getLast? with
  | none => exact .inl ⟨List.getLast?_eq_none_iff.mp h, rfl⟩
  | some x =>
    obtain ⟨l, e⟩ := List.getLast?_eq_some_iff.mp h
    exact .inr ⟨l, x, e, rfl⟩
theorem at_last_ok (o : Fo P h n nt T now) (hl : T.length ≤ 100) (ho : ∀ r ∈ T, PyData.strOk r.2.1 = true) (hp : ∀ r ∈ T, 0 ≤ r.2.2.2 ∧ r.2.2.2 ≤ 200) : f_fall_at_last_price [.ref n] h = .ok (.int (sumI (T.map fun r => r.2.2.1) * lastT T)) h := by
  unfold f_fall_at_last_price
  refine runF_rt ?_
  unfold m_fall_at_last_price
  rw [show startA _ _ = [some (.ref n), none] from rfl]
  refine ret_rt ?_
  have sm := gx_sum (mi := miLT (mFld [0] "takes" (mVar 0))) (vs := [1]) (mg := gmName 1) (me := mOp ixD (mVar 1) (mC (.int 2))) (σ := [some (.ref n), none]) (h := h) (h1 := h) (it := itOf (.ref nt)) (enc := tD) (f := fun r => r.2.2.1) T (by simp [o.takes, itLT_ref o.tk]) (itRef o.tk) (by omega) (fun r hr => ⟨[some (.ref n), some (tD r)], rfl, by simp [ix_t2]⟩)
  have nl := takes_nil o ho
  unfold lastT
  rcases last_or T with ⟨q1, q2⟩ | ⟨l, y, q1, q2⟩
  · rw [q2]
    subst q1
    have nl : dNe (.ref nt) (.lst []) h = .ok (.bl false) h := nl
    simp [o.takes, nl, line3', sumI]
  · rw [q2]
    have ne : T.isEmpty = false := by rw [q1]; cases l <;> rfl
    rw [ne] at nl
    have hy : y ∈ T := by rw [q1]; simp
    have py := hp y hy
    have il : ixD (.ref nt) (.int (-1)) h = .ok (tD y) h := by
      have : ixD (.ref nt) (.int (-1)) h = ixD (.lst (T.map tD)) (.int (-1)) h := by simp only [ixD, getS, getL, o.tk]
      rw [this, q1, List.map_append]
      exact ix_last
    have tt : mTB (mOp dNe (mFld [0] "takes" (mVar 0)) (mLst false (mNil))) [some (.ref n), none] h = .ok true h := by simp [o.takes, nl, line3']
    rw [mIf_d, tt, bindR_okS, if_pos rfl, mOp_d, sm, bindR_okS]
    simp [o.takes, il, ix_t3, dMul_int (cmul_small py.1 (by omega) : CMul _ y.2.2.2)]
end K04
end
section
set_option Elab.async false
set_option linter.all false
set_option maxRecDepth 100000
namespace K04
open PySem DV L2 SrtO
variable {P : FP} {h : AH} {n nt : Nat} {T : List Take} {now : Int} {σ : AS}
theorem Fo.ne (o : Fo P h n nt T now) : n ≠ nt := by
  rintro rfl
  have := o.ins
  rw [o.tk] at this
  cases this
theorem Fo.lt (o : Fo P h n nt T now) : n < h.length := (List.getElem?_eq_some_iff.mp o.ins).1
theorem Fo.ltt (o : Fo P h n nt T now) : nt < h.length := (List.getElem?_eq_some_iff.mp o.tk).1
theorem Fo.put (o : Fo P h n nt T now) (w : Int) : putI [0] "now" (.ref n) (.int w) h = some (h.set n (some (.ins 0 (fsD P nt w)))) := by
  simp only [putI, o.ins]
  rw [if_pos ⟨rfl, by simp [fsD]⟩]
  rfl
theorem Fo.put2 (o : Fo P h n nt T now) (w : Int) : Fo P (h.set n (some (.ins 0 (fsD P nt w)))) n nt T w :=
  ⟨List.getElem?_set_self o.lt, by rw [List.getElem?_set_ne o.ne, o.tk]⟩
theorem Fo.addT (o : Fo P h n nt T now) (r : Take) : Fo P (h.set nt (some (.lst ((T ++ [r]).map tD)))) n nt (T ++ [r]) now :=
  ⟨by rw [List.getElem?_set_ne o.ne.symm, o.ins], List.getElem?_set_self o.ltt⟩
theorem Fo.appnd (o : Fo P h n nt T now) (hl : T.length ≤ 100) (r : Take) : mtAppend (.ref nt) [tD r] h = .ok .non (h.set nt (some (.lst ((T ++ [r]).map tD)))) := by
  have s1 : (T.map tD).length < sizeLine := line3 (by simp; omega)
  simp only [mtAppend, listAt, o.tk, s1, if_true]
  simp
theorem Fo.isL (o : Fo P h n nt T now) : isLst h (.ref nt) = true := by simp only [isLst, getL, o.tk]; rfl
def goodT (P : FP) (T : List Take) (now : Int) (who : Str) (m w : Int) : Bool := !decide (who = "") && (decide (1 ≤ m) && decide (m ≤ leftV P T) && decide (now ≤ w))
def takeH (P : FP) (h : AH) (n nt : Nat) (T : List Take) (who : Str) (m w : Int) : AH := (h.set n (some (.ins 0 (fsD P nt w)))).set nt (some (.lst ((T ++ [(w, who, m, Pt P w)]).map tD)))
theorem runF_exc {k : Nat} {ms : MS} {ds : List D} {c : Nat} {σ' : AS} {h' : AH} (e : ms (startA k ds) h = .exc c σ' h') : runF k ms ds h = .exc c h' := by unfold runF; rw [e]
theorem if_yes_exc {t : MT} {s2 : MS} {c : Nat} {h1 : AH} (e : t σ h = .ok true h1) : sIf t (sRaise c) s2 σ h = .exc c σ h1 := by rw [sIf_d, e]; rfl
theorem seq_exc {s1 s2 : MS} {c : Nat} {σ1 : AS} {h1 : AH} (e : s1 σ h = .exc c σ1 h1) : sSeq s1 s2 σ h = .exc c σ1 h1 := by rw [sSeq_d, e]; rfl
theorem mMeth_d2 {c : Nat} {mn : Str} {Fm : FM} {mo : ME} {r : MA} {x : D} {xs : List D} {h1 h2 : AH} (e : mo σ h = .ok x h1) (hr : rcvD c mn x h1 = true) (ea : r σ h1 = .ok xs h2) : mMeth c mn Fm mo r σ h = Fm (x :: xs) h2 := by
  unfold mMeth
  rw [e, bindR_okS, if_pos hr, ea, bindR_okS]
theorem take_ok (g : Gd P) (o : Fo P h n nt T now) (hl : T.length ≤ 100) (h0 : 0 ≤ now) {who : Str} (hw : PyData.strOk who = true) (m w : Int) (hm : m ≤ 9) :
    f_fall_take_some [.ref n, .str who, .int m, .int w] h = if goodT P T now who m w = true then .ok (.int (m * Pt P w)) (takeH P h n nt T who m w) else .exc 1 h := by
  have e0 : PyData.strOk "" = true := by decide +kernel
  have dq := dEq_str hw e0 h
  have ml : mMeth 0 "left_now" (fun xs => f_fall_left_now (xs ++ [])) (mVar 0) mNil [some (.ref n), some (.str who), some (.int m), some (.int w), none] h = .ok (.int (leftV P T)) h := by
    rw [mMeth_d2 (x := .ref n) (xs := []) (h1 := h) (h2 := h) rfl (o.rcv rc4) rfl]
    exact left_now_ok o hl
  have t1 : (mOr (mTB (mOp dEq (mVar 1) (mC (.str "")))) (mOr (mNot (mTB (mChain dLe dLe (mC (.int 1)) (mVar 2) (mMeth 0 "left_now" (fun xs => f_fall_left_now (xs ++ [])) (mVar 0) mNil)))) (mTB (mOp dLt (mVar 3) (mFld [0] "now" (mVar 0)))))) [some (.ref n), some (.str who), some (.int m), some (.int w), none] h = .ok (!goodT P T now who m w) h := by
    unfold goodT
    by_cases q1 : who = ""
    · subst q1; simp [dq]
    · by_cases q2 : 1 ≤ m
      · by_cases q3 : m ≤ leftV P T
        · by_cases q4 : now ≤ w
          · simp [-mMeth_d, -List.append_nil, dq, q1, dLe_int, q2, ml, q3, o.nowf, dLt_int, q4, Int.not_lt.mpr q4]
          · simp [-mMeth_d, -List.append_nil, dq, q1, dLe_int, q2, ml, q3, o.nowf, dLt_int, q4, Int.not_le.mp q4]
        · simp [-mMeth_d, -List.append_nil, dq, q1, dLe_int, q2, ml, q3]
      · simp [dq, q1, dLe_int, q2]
  unfold f_fall_take_some m_fall_take_some
  by_cases q : goodT P T now who m w = true
  · rw [if_pos q]
    rw [q] at t1
    refine runF_rt ?_
    rw [show startA _ _ = [some (.ref n), some (.str who), some (.int m), some (.int w), none] from rfl]
    rw [seq_nx (if_no t1)]
    unfold goodT at q
    simp only [Bool.and_eq_true, decide_eq_true_iff] at q
    have o1 := o.put2 w
    have e1 : sFldP [0] "now" (mVar 0) (mVar 3) [some (.ref n), some (.str who), some (.int m), some (.int w), none] h = .ok (.nx [some (.ref n), some (.str who), some (.int m), some (.int w), none]) (h.set n (some (.ins 0 (fsD P nt w)))) := by
      simp [o.put w]
    rw [seq_nx e1]
    unfold takeH
    generalize h.set n (some (.ins 0 (fsD P nt w))) = h1 at *
    have e2 : mMeth 0 "price_at" (fun xs => f_fall_price_at (xs ++ [])) (mVar 0) (mCons (mVar 3) (mNil)) [some (.ref n), some (.str who), some (.int m), some (.int w), none] h1 = .ok (.int (Pt P w)) h1 := by
      rw [mMeth_d2 (x := .ref n) (xs := [.int w]) (h1 := h1) (h2 := h1) rfl (o1.rcv rc1) (by simp)]
      exact price_at_ok g o1 (by omega)
    rw [seq_nx (asg_nx e2)]
    simp only [List.set_cons_succ, List.set_cons_zero]
    have e3 : sExpr (mBM isLst mtAppend (mFld [0] "takes" (mVar 0)) (mCons (mTup (mCons (mVar 3) (mCons (mVar 1) (mCons (mVar 2) (mCons (mVar 4) (mNil)))))) (mNil))) [some (.ref n), some (.str who), some (.int m), some (.int w), some (.int (Pt P w))] h1 = .ok (.nx [some (.ref n), some (.str who), some (.int m), some (.int w), some (.int (Pt P w))]) (h1.set nt (some (.lst ((T ++ [(w, who, m, Pt P w)]).map tD)))) := by
      have ap := o1.appnd hl (w, who, m, Pt P w)
      unfold tD at ap
      unfold mBM
      simp [o1.takes, o1.isL, line3', ap]
      rfl
    rw [seq_nx e3]
    refine ret_rt ?_
    simp [dMul_int (cmul_left (by omega) (by omega) : CMul m (Pt P w))]
  · rw [if_neg q]
    have q' : goodT P T now who m w = false := by simpa using q
    rw [q'] at t1
    refine runF_exc (σ' := [some (.ref n), some (.str who), some (.int m), some (.int w), none]) ?_
    rw [show startA _ _ = [some (.ref n), some (.str who), some (.int m), some (.int w), none] from rfl]
    exact seq_exc (if_yes_exc t1)
theorem gain_ok (g : Gd P) (o : Fo P h n nt T now) {who : Str} {m p s : Int} (h0 : 0 ≤ s) (m0 : 0 ≤ m) (m9 : m ≤ 9) : f_gain_of [.ref n, .tup [.str who, .int m, .int p], .int s] h = .ok (.int (m * (p - Pt P s))) h := by
  unfold f_gain_of
  refine runF_rt ?_
  unfold m_gain_of
  rw [show startA _ _ = [some (.ref n), some (.tup [.str who, .int m, .int p]), some (.int s)] from rfl]
  refine ret_rt ?_
  have e2 : mMeth 0 "price_at" (fun xs => f_fall_price_at (xs ++ [])) (mVar 0) (mCons (mVar 2) (mNil)) [some (.ref n), some (.tup [.str who, .int m, .int p]), some (.int s)] h = .ok (.int (Pt P s)) h := by
    rw [mMeth_d2 (x := .ref n) (xs := [.int s]) (h1 := h) (h2 := h) rfl (o.rcv rc1) (by simp)]
    exact price_at_ok g o h0
  have i1 : ixD (.tup [.str who, .int m, .int p]) (.int 1) h = .ok (.int m) h := ix_tup2 (n := 1) rfl rfl
  have i2 : ixD (.tup [.str who, .int m, .int p]) (.int 2) h = .ok (.int p) h := ix_tup2 (n := 2) rfl rfl
  simp [-mMeth_d, -List.append_nil, i1, i2, e2, dMinus_int, dMul_int (cmul_left m0 (by omega) : CMul m (p - Pt P s))]
end K04
end
section
set_option Elab.async false
set_option linter.all false
set_option maxRecDepth 100000
namespace K04
open PySem DV L2 SrtO
variable {P : FP} {h : AH} {n nt : Nat} {T : List Take} {now : Int} {σ : AS}
def NM : List Str := ["a", "b", "c"]
theorem nm_ok {x : Str} (h : x ∈ NM) : PyData.strOk x = true := by
  unfold NM at h
  simp at h
  rcases h with rfl | rfl | rfl <;> decide +kernel
def nmL (T : List Take) : List Str := srtS (dedupL (T.map (·.2.1)))
theorem nmL_mem {x : Str} : x ∈ nmL T ↔ ∃ b ∈ T, b.2.1 = x := by
  unfold nmL srtS dedupL
  rw [(isortB_perm _).mem_iff, fold_mem]
  simp
theorem nmL_nodup : (nmL T).Nodup := by
  unfold nmL srtS dedupL
  exact (isortB_perm _).nodup_iff.mpr (fold_nodup _ [] List.nodup_nil)
theorem dedup_len : (dedupL (T.map (·.2.1))).length ≤ T.length := by
  have := fold_len (T.map (·.2.1)) []
  simpa [dedupL] using this
theorem nmL_len : (nmL T).length ≤ T.length := by
  unfold nmL srtS
  rw [(isortB_perm _).length_eq]
  exact dedup_len
def ofW (T : List Take) (x : Str) : List Take := T.filter fun r => decide (r.2.1 = x)
def cs (T : List Take) (x : Str) : Int × Int := (sumI ((ofW T x).map fun r => r.2.2.1), sumI ((ofW T x).map fun r => r.2.2.1 * r.2.2.2))
def cD (c : Int × Int) : D := .tup [.int c.1, .int c.2]
theorem sumI_app (a b : List Int) : sumI (a ++ b) = sumI a + sumI b := by
  induction a with
  | nil => simp [sumI]
  | cons x a ih => rw [List.cons_append, sumI, sumI, ih]; omega
theorem cs_snoc (r : Take) (x : Str) : cs (T ++ [r]) x = if x = r.2.1 then ((cs T x).1 + r.2.2.1, (cs T x).2 + r.2.2.1 * r.2.2.2) else cs T x := by
  unfold cs ofW
  rw [List.filter_append]
  by_cases q : x = r.2.1
  · subst q
    simp [sumI_app, sumI]
  · have : ¬ r.2.1 = x := fun h => q h.symm
    simp [q, this]
theorem cs_none {x : Str} (hx : x ∉ T.map (·.2.1)) : cs T x = (0, 0) := by
  have : ofW T x = [] := by
    unfold ofW
    rw [List.filter_eq_nil_iff]
    intro r hr
    simp
    rintro rfl
    exact hx (List.mem_map.mpr ⟨r, hr, rfl⟩)
  unfold cs
  rw [this]
  rfl
structure KI (K : List (Key × D)) (T : List Take) : Prop where
  ks : K.map (·.1) = (dedupL (T.map (·.2.1))).map Sum.inr
  get : ∀ x : Str, (lkK K (.inr x)).getD (.tup [.int 0, .int 0]) = cD (cs T x)
theorem KI.len {K : List (Key × D)} (k : KI K T) : K.length ≤ T.length := by
  have := congrArg List.length k.ks
  simp only [List.length_map] at this
  rw [this]
  exact dedup_len
theorem KI.put {K : List (Key × D)} (k : KI K T) (r : Take) : KI (putKd K (.inr r.2.1) (cD ((cs T r.2.1).1 + r.2.2.1, (cs T r.2.1).2 + r.2.2.1 * r.2.2.2))) (T ++ [r]) := by
  refine ⟨?_, fun x => ?_⟩
  · rw [putKd_keys k.ks, List.map_append]
    show (addK _ _).map Sum.inr = (dedupL (T.map (·.2.1) ++ [r.2.1])).map Sum.inr
    rw [dedup_snoc]
  · rw [lkK_put, cs_snoc]
    by_cases q : x = r.2.1
    · subst q; simp
    · have : ¬ (Sum.inr x : Key) = .inr r.2.1 := by simpa using q
      rw [if_neg this, if_neg q]
      exact k.get x
def pbBody : MS := (sSeq (sAsg (mGet2 (mVar 1) (mVar 3) (mTup (mCons (mC (.int 0)) (mCons (mC (.int 0)) (mNil))))) (gmTup 2 (gmCons (gmName 6) (gmCons (gmName 7) (gmNil))))) (sAsg (mTup (mCons (mOp (dPlus false) (mVar 6) (mVar 4)) (mCons (mOp (dPlus false) (mVar 7) (mOp (dMul false) (mVar 4) (mVar 5))) (mNil)))) (gmSubD (mVar 1) (mVar 3))))
theorem pb_step {K : List (Key × D)} (k : KI K T) (hl : T.length ≤ 100) (r : Take) (h0 : 0 ≤ r.2.2.1) (h1 : r.2.2.1 ≤ 9) (v0 a6 a7 : Option D) :
    ∃ b6 b7, pbBody [v0, some (.ref h.length), some (.int r.1), some (.str r.2.1), some (.int r.2.2.1), some (.int r.2.2.2), a6, a7] (h ++ [some (.dct K)]) = .ok (.nx [v0, some (.ref h.length), some (.int r.1), some (.str r.2.1), some (.int r.2.2.1), some (.int r.2.2.2), b6, b7]) (h ++ [some (.dct (putKd K (.inr r.2.1) (cD ((cs T r.2.1).1 + r.2.2.1, (cs T r.2.1).2 + r.2.2.1 * r.2.2.2))))]) := by
  have kl := k.len
  refine ⟨some (.int (cs T r.2.1).1), some (.int (cs T r.2.1).2), ?_⟩
  have gk : getK (h ++ [some (.dct K)]) (.ref h.length) = some K := by simp only [getK, get_end]
  have lk : lookD (.ref h.length) (.str r.2.1) (h ++ [some (.dct K)]) = some (lkK K (.inr r.2.1)) := by simp only [lookD, gk, keyD]
  have e1 : mGet2 (mVar 1) (mVar 3) (mTup (mCons (mC (.int 0)) (mCons (mC (.int 0)) (mNil)))) [v0, some (.ref h.length), some (.int r.1), some (.str r.2.1), some (.int r.2.2.1), some (.int r.2.2.2), a6, a7] (h ++ [some (.dct K)]) = .ok (cD (cs T r.2.1)) (h ++ [some (.dct K)]) := by
    have kg := k.get r.2.1
    unfold mGet2
    simp [gk, lk, line3', kg]
  have sd : setLD (.ref h.length) (.str r.2.1) (cD ((cs T r.2.1).1 + r.2.2.1, (cs T r.2.1).2 + r.2.2.1 * r.2.2.2)) (h ++ [some (.dct K)]) = some (h ++ [some (.dct (putKd K (.inr r.2.1) (cD ((cs T r.2.1).1 + r.2.2.1, (cs T r.2.1).2 + r.2.2.1 * r.2.2.2))))]) := by
    have e : listAt (.ref h.length) (h ++ [some (.dct K)]) = none := by simp only [listAt, get_end]
    unfold setLD
    rw [e]
    dsimp only
    rw [setD_end (key := .inr r.2.1) rfl (by omega)]
  unfold pbBody
  have st : sAsg (mGet2 (mVar 1) (mVar 3) (mTup (mCons (mC (.int 0)) (mCons (mC (.int 0)) (mNil))))) (gmTup 2 (gmCons (gmName 6) (gmCons (gmName 7) (gmNil)))) [v0, some (.ref h.length), some (.int r.1), some (.str r.2.1), some (.int r.2.2.1), some (.int r.2.2.2), a6, a7] (h ++ [some (.dct K)]) = .ok (.nx [v0, some (.ref h.length), some (.int r.1), some (.str r.2.1), some (.int r.2.2.1), some (.int r.2.2.2), some (.int (cs T r.2.1).1), some (.int (cs T r.2.1).2)]) (h ++ [some (.dct K)]) := by
    rw [sAsg_d, e1]
    simp [cD]
  rw [seq_nx st]
  unfold cD at sd
  generalize h ++ [some (O.dct K)] = hh at *
  simp [dPlus_int, dMul_int (cmul_left h0 (by omega) : CMul r.2.2.1 r.2.2.2), line3', gmSubD, sd, cD]
theorem pb_loop (o : Fo P h n nt T now) (hl : T.length ≤ 100) (hm : ∀ r ∈ T, 0 ≤ r.2.2.1 ∧ r.2.2.1 ≤ 9) (v0 : Option D) : ∀ (f i : Nat) (K : List (Key × D)) (a2 a3 a4 a5 a6 a7 : Option D), i ≤ T.length → T.length - i < f → KI K (T.take i) →
    ∃ K' b2 b3 b4 b5 b6 b7, KI K' T ∧ forN (itOf (.ref nt)) (gmTup 4 (gmCons (gmName 2) (gmCons (gmName 3) (gmCons (gmName 4) (gmCons (gmName 5) (gmNil)))))) pbBody f i [v0, some (.ref h.length), a2, a3, a4, a5, a6, a7] (h ++ [some (.dct K)]) = .ok (.nx [v0, some (.ref h.length), b2, b3, b4, b5, b6, b7]) (h ++ [some (.dct K')])
  | 0, i, K, a2, a3, a4, a5, a6, a7, hi, hf, k => by omega
  | f + 1, i, K, a2, a3, a4, a5, a6, a7, hi, hf, k => by
    have o1 := o.app [some (.dct K)]
    have it := itRef o1.tk i
    by_cases hlt : i < T.length
    · have hr := hm T[i] (List.getElem_mem hlt)
      obtain ⟨b6, b7, st⟩ := pb_step (h := h) k (by rw [List.length_take]; omega) T[i] hr.1 hr.2 v0 a6 a7
      have k2 := k.put T[i]
      rw [← List.take_succ_eq_append_getElem hlt] at k2
      obtain ⟨K', c2, c3, c4, c5, c6, c7, k3, e3⟩ := pb_loop o hl hm v0 f (i + 1) _ (some (.int T[i].1)) (some (.str T[i].2.1)) (some (.int T[i].2.2.1)) (some (.int T[i].2.2.2)) b6 b7 (by omega) (by omega) k2
      refine ⟨K', c2, c3, c4, c5, c6, c7, k3, ?_⟩
      unfold forN
      rw [it, List.getElem?_map, List.getElem?_eq_getElem hlt]
      dsimp only [Option.map]
      have tg : gmTup 4 (gmCons (gmName 2) (gmCons (gmName 3) (gmCons (gmName 4) (gmCons (gmName 5) (gmNil))))) (tD T[i]) [v0, some (.ref h.length), a2, a3, a4, a5, a6, a7] (h ++ [some (.dct K)]) = .ok [v0, some (.ref h.length), some (.int T[i].1), some (.str T[i].2.1), some (.int T[i].2.2.1), some (.int T[i].2.2.2), a6, a7] (h ++ [some (.dct K)]) := by simp [tD]
      rw [tg]
      dsimp only
      rw [st, loopS_nx, e3]
    · have : i = T.length := by omega
      subst this
      rw [List.take_length] at k
      refine ⟨K, a2, a3, a4, a5, a6, a7, k, ?_⟩
      unfold forN
      rw [it, List.getElem?_eq_none (by simp)]
theorem paid_ok (o : Fo P h n nt T now) (hl : T.length ≤ 60) (hm : ∀ r ∈ T, 0 ≤ r.2.2.1 ∧ r.2.2.1 ≤ 9) : ∃ x, f_fall_paid_by [.ref n] h = .ok (.ref (h ++ [x]).length) ((h ++ [x]) ++ [some (.dct (nd (nmL T) fun y => cD (cs T y)))]) := by
  obtain ⟨K, b2, b3, b4, b5, b6, b7, k, e⟩ := pb_loop o (by omega) hm (some (.ref n)) bigN 0 [] none none none none none none (Nat.zero_le _) (by have := big3 (n := T.length) (by omega); omega) ⟨by simp [dedupL], fun x => by simp [lkK, cs, ofW, sumI, cD]⟩
  refine ⟨some (.dct K), ?_⟩
  have nl := nmL_len (T := T)
  have dl := dedup_len (T := T)
  unfold f_fall_paid_by
  refine runF_rt ?_
  unfold m_fall_paid_by
  rw [show startA _ _ = [some (.ref n), none, none, none, none, none, none, none] from rfl]
  rw [seq_nx (asg_nx (d := .ref h.length) (h1 := h ++ [some (.dct [])]) rfl)]
  simp only [List.set_cons_succ, List.set_cons_zero]
  have o1 := o.app [some (.dct [])]
  have loop : sFor (miLT (mFld [0] "takes" (mVar 0))) (gmTup 4 (gmCons (gmName 2) (gmCons (gmName 3) (gmCons (gmName 4) (gmCons (gmName 5) (gmNil)))))) pbBody [some (.ref n), some (.ref h.length), none, none, none, none, none, none] (h ++ [some (.dct [])]) = .ok (.nx [some (.ref n), some (.ref h.length), b2, b3, b4, b5, b6, b7]) (h ++ [some (.dct K)]) := by
    have mi : miLT (mFld [0] "takes" (mVar 0)) [some (.ref n), some (.ref h.length), none, none, none, none, none, none] (h ++ [some (.dct [])]) = .ok (itOf (.ref nt)) (h ++ [some (.dct [])]) := by simp [o1.takes, itLT_ref o1.tk]
    unfold sFor
    rw [mi, ofE_ok, e]
  unfold pbBody at loop
  rw [seq_nx loop]
  refine ret_rt ?_
  have sr : mCB (bSorted2 false) (mCons (mVar 1) (mNil)) [some (.ref n), some (.ref h.length), b2, b3, b4, b5, b6, b7] (h ++ [some (.dct K)]) = .ok (.lst ((nmL T).map D.str)) (h ++ [some (.dct K)]) := by
    have := srt_dctR (h := h ++ [some (.dct K)]) (n := h.length) get_end k.ks (by omega)
    simp only [mCB_d, mCons_d, mVar_d, List.getElem?_cons_succ, List.getElem?_cons_zero, bindR_okS, mNil_d, this]
    rfl
  rw [mDc_putA (key := fun x : Str => (.inr x : Key)) (val := fun y => cD (cs T y)) (kd := D.str) (enc := D.str) (it := itOf (.lst ((nmL T).map D.str))) (h1 := h ++ [some (.dct K)]) (nmL T) (by rw [miLT_d, sr]; rfl) (itIs_lst _) (fun x hx => ⟨rfl, fun ks => ⟨[some (.ref n), some (.ref h.length), b2, some (.str x), b4, b5, b6, b7], rfl, rfl, rfl, ?_⟩⟩) (by omega)]
  · rw [show (nmL T).map (fun x : Str => ((.inr x : Key), cD (cs T x))) = nd (nmL T) (fun y => cD (cs T y)) from rfl, merge_nd nmL_nodup]
  · have gk : getK (h ++ [some (.dct K)] ++ [some (.dct ks)]) (.ref h.length) = some K := by
      simp [getK]
    have kg := k.get x
    have km : (lkK K (.inr x)).isSome = true := by
      cases q : lkK K (.inr x) with
      | some d => rfl
      | none =>
        exfalso
        have hx2 : x ∈ dedupL (T.map (·.2.1)) := by
          unfold nmL srtS at hx
          exact (isortB_perm _).mem_iff.mp hx
        have : (Sum.inr x : Key) ∈ K.map (·.1) := by rw [k.ks]; exact List.mem_map.mpr ⟨x, hx2, rfl⟩
        obtain ⟨p, hp, hpx⟩ := List.mem_map.mp this
        have : ∀ K : List (Key × D), p ∈ K → lkK K p.1 ≠ none := by
          intro K
          induction K with
          | nil => simp
          | cons q r ih =>
            intro hq
            obtain ⟨k0, d0⟩ := q
            show (if k0 = p.1 then some d0 else lkK r p.1) ≠ none
            by_cases z : k0 = p.1
            · rw [if_pos z]; simp
            · rw [if_neg z]
              rcases List.mem_cons.mp hq with rfl | hq
              · exact absurd rfl z
              · exact ih hq
        exact this K hp (by rw [hpx]; exact q)
    obtain ⟨d, hd⟩ := Option.isSome_iff_exists.mp km
    rw [hd] at kg
    have kg : d = cD (cs T x) := kg
    have lk : subD (.ref h.length) (.str x) (h ++ [some (.dct K)] ++ [some (.dct ks)]) = .ok (cD (cs T x)) (h ++ [some (.dct K)] ++ [some (.dct ks)]) := by
      simp only [subD, lookD, gk, keyD, hd, kg]
    simp only [mOp_d, mVar_d, List.getElem?_cons_succ, List.getElem?_cons_zero, bindR_okS, lk]
end K04
end
section
set_option Elab.async false
set_option linter.all false
set_option maxRecDepth 100000
namespace K04
open PySem DV L2 SrtO
variable {P : FP} {h : AH} {n nt : Nat} {T : List Take} {now : Int} {σ : AS}
def tS (i : Int) : Str := Str.ofString (toString i)
theorem app_len (a b : Str) : (a ++ b).length = a.length + b.length := by
  show (a.cps ++ b.cps).size = a.cps.size + b.cps.size
  rw [Array.size_append]
theorem tS_len {i : Int} (h : i.natAbs < 10 ^ 10) : (tS i).length ≤ 11 := by
  unfold tS
  rw [ofString_length]
  exact int_text_length_le10 (by decide) h
theorem log_ok {i : Int} (h : i.natAbs < 10 ^ 10) : i.natAbs.log2 < 1920 := by
  by_cases q : i.natAbs = 0
  · rw [q]; decide
  · rw [Nat.log2_lt q]
    exact Nat.lt_trans h (by decide)
theorem fmt_int {i : Int} (hi : i.natAbs < 10 ^ 10) (h : AH) : fmtD (.int i) h = .ok (.str (tS i)) h := by
  simp only [fmtD, okIf_d, log_ok hi, if_true]
  rfl
theorem str_int {i : Int} (hi : i.natAbs < 10 ^ 10) (h : AH) : bStr [.int i] h = .ok (.str (tS i)) h := by
  simp only [bStr, okIf_d, log_ok hi, if_true]
  rfl
theorem str_str (x : Str) (h : AH) : bStr [.str x] h = .ok (.str x) h := rfl
theorem plus_str {x y : Str} (hl : x.length + y.length ≤ 1000) (h : AH) : dPlus false (.str x) (.str y) h = .ok (.str (x ++ y)) h := by
  have s1 : x.length + y.length ≤ sizeLine := line3' hl
  simp [dPlus, s1]
def lnS (r : Take) : Str := (((Str.empty ++ tS r.1) ++ " ") ++ r.2.1) ++ ((((Str.empty ++ " ") ++ tS r.2.2.1) ++ " ") ++ tS r.2.2.2)
def smallT (r : Take) : Prop := r.1.natAbs < 10 ^ 10 ∧ r.2.1.length ≤ 10 ∧ r.2.2.1.natAbs < 10 ^ 10 ∧ r.2.2.2.natAbs < 10 ^ 10
theorem sp_len : (Str.ofString " ").length = 1 := by decide +kernel
theorem em_len : Str.empty.length = 0 := rfl
theorem take_lines_ok (o : Fo P h n nt T now) (hl : T.length ≤ 100) (hs : ∀ r ∈ T, smallT r) : f_fall_take_lines [.ref n] h = .ok (.tup (T.map fun r => .str (lnS r))) h := by
  unfold f_fall_take_lines
  refine runF_rt ?_
  unfold m_fall_take_lines
  rw [show startA _ _ = [some (.ref n), none, none, none, none] from rfl]
  refine ret_rt ?_
  refine gx_col (it := itOf (.ref nt)) (enc := tD) (out := fun r => .str (lnS r)) T (by simp [o.takes, itLT_ref o.tk]) (itRef o.tk) (by omega) (fun r hr => ⟨[some (.ref n), some (.int r.1), some (.str r.2.1), some (.int r.2.2.1), some (.int r.2.2.2)], by simp [tD, wipeA], ?_⟩)
  obtain ⟨a1, a2, a3, a4⟩ := hs r hr
  have l1 := tS_len a1
  have l3 := tS_len a3
  have l4 := tS_len a4
  have sl := sp_len
  have el := em_len
  have z : ∀ x : Str, x.length ≤ 1000 → x.length ≤ sizeLine := fun x hx => line3' hx
  have e1 : mFS [mFmt (mVar 1), mC (.str " ")] [some (.ref n), some (.int r.1), some (.str r.2.1), some (.int r.2.2.1), some (.int r.2.2.2)] h = .ok (.str ((Str.empty ++ tS r.1) ++ " ")) h := by
    have y1 : (Str.empty ++ tS r.1).length ≤ sizeLine := z _ (by rw [app_len]; omega)
    have y2 : (Str.empty ++ tS r.1 ++ Str.ofString " ").length ≤ sizeLine := z _ (by rw [app_len, app_len]; omega)
    simp only [mFS, mJs, mFmt, mVar_d, List.getElem?_cons_succ, List.getElem?_cons_zero, bindR_okS, fmt_int a1, mC_d, y1, y2, if_true]
  have e2 : mFS [mC (.str " "), mFmt (mVar 3), mC (.str " "), mFmt (mVar 4)] [some (.ref n), some (.int r.1), some (.str r.2.1), some (.int r.2.2.1), some (.int r.2.2.2)] h = .ok (.str ((((Str.empty ++ " ") ++ tS r.2.2.1) ++ " ") ++ tS r.2.2.2)) h := by
    have y1 : (Str.empty ++ Str.ofString " ").length ≤ sizeLine := z _ (by rw [app_len]; omega)
    have y2 : (Str.empty ++ Str.ofString " " ++ tS r.2.2.1).length ≤ sizeLine := z _ (by rw [app_len, app_len]; omega)
    have y3 : (Str.empty ++ Str.ofString " " ++ tS r.2.2.1 ++ Str.ofString " ").length ≤ sizeLine := z _ (by rw [app_len, app_len, app_len]; omega)
    have y4 : (Str.empty ++ Str.ofString " " ++ tS r.2.2.1 ++ Str.ofString " " ++ tS r.2.2.2).length ≤ sizeLine := z _ (by rw [app_len, app_len, app_len, app_len]; omega)
    simp only [mFS, mJs, mFmt, mVar_d, List.getElem?_cons_succ, List.getElem?_cons_zero, bindR_okS, fmt_int a3, fmt_int a4, mC_d, y1, y2, y3, y4, if_true]
  rw [mOp_d, mOp_d, e1, bindR_okS]
  simp only [mVar_d, List.getElem?_cons_succ, List.getElem?_cons_zero, bindR_okS]
  rw [plus_str (by simp only [app_len]; omega), bindR_okS, e2, bindR_okS, plus_str (by simp only [app_len]; omega)]
  rfl
theorem glue_cps : ∀ (s a b c d : Str), (Txt.join s [a, b, c, d]).cps.toList = a.cps.toList ++ (s.cps.toList ++ (b.cps.toList ++ (s.cps.toList ++ (c.cps.toList ++ (s.cps.toList ++ d.cps.toList))))) := by
  intro s a b c d
  simp [Txt.join, Builtin.Str.glued]
theorem ln_join (r : Take) : Txt.join " " [tS r.1, r.2.1, tS r.2.2.1, tS r.2.2.2] = lnS r := by
  have e : ∀ x y : Str, x.cps.toList = y.cps.toList → x = y := fun x y h => by
    obtain ⟨x⟩ := x
    obtain ⟨y⟩ := y
    congr 1
    exact Array.ext' (by simpa using h)
  have ap : ∀ x y : Str, (x ++ y).cps.toList = x.cps.toList ++ y.cps.toList := fun x y => by
    show (x.cps ++ y.cps).toList = _
    rw [Array.toList_append]
  apply e
  rw [glue_cps]
  unfold lnS
  simp only [ap]
  simp [Str.empty]
/-! texts of ints are well made -/
theorem strOk_of (s : String) : PyData.strOk (Str.ofString s) = true := by
  unfold PyData.strOk
  rw [Str.ofString_eq_toList, Array.all_eq_true_iff_forall_mem]
  intro x hx
  simp only [List.mem_toArray, List.mem_map] at hx
  obtain ⟨c, _, rfl⟩ := hx
  have := c.valid
  simp only [UInt32.isValidChar, Nat.isValidChar] at this
  have e : c.toNat = c.val.toNat := rfl
  rw [e]
  exact decide_eq_true (by omega)
theorem strOk_app {x y : Str} (hx : PyData.strOk x = true) (hy : PyData.strOk y = true) : PyData.strOk (x ++ y) = true := by
  unfold PyData.strOk at *
  show (x.cps ++ y.cps).all _ = true
  rw [Array.all_append, hx, hy]
  rfl
theorem lnS_ok {r : Take} (h : PyData.strOk r.2.1 = true) : PyData.strOk (lnS r) = true := by
  have e0 : PyData.strOk Str.empty = true := by decide +kernel
  unfold lnS tS
  exact strOk_app (strOk_app (strOk_app (strOk_app e0 (strOk_of _)) (strOk_of _)) h) (strOk_app (strOk_app (strOk_app (strOk_app e0 (strOk_of _)) (strOk_of _)) (strOk_of _)) (strOk_of _))
end K04
end
section
set_option Elab.async false
set_option linter.all false
set_option maxRecDepth 100000
namespace K04
open PySem DV L2 SrtO
variable {P : FP} {h : AH} {n nt : Nat} {T : List Take} {now : Int} {σ : AS}
abbrev Wish : Type := Str × Int × Int
def wD (w : Wish) : D := .tup [.str w.1, .int w.2.1, .int w.2.2]
def GW (ws : List Wish) : Prop := ws.length ≤ 5 ∧ ∀ w ∈ ws, w.1 ∈ NM ∧ 1 ≤ w.2.1 ∧ w.2.1 ≤ 4
theorem pairsD_map : ∀ ns : List (Int × Int), pairsD (ns.map pD) = some ns
  | [] => rfl
  | n :: ns => by
    show (pairsD (ns.map pD)).map _ = _
    rw [pairsD_map ns]
    rfl
def sP (rs : List (Int × Int)) : List (Int × Int) := isortB lexB rs
theorem srtD_prs (rs : List (Int × Int)) : srtD (rs.map pD) = some ((sP rs).map pD) := by
  cases rs with
  | nil => rfl
  | cons r rs =>
    have e1 : intsD ((r :: rs).map pD) = none := rfl
    unfold srtD
    rw [e1, pairsD_map]
    rfl
theorem srt_prs {rs : List (Int × Int)} {k : Nat} {h : AH} (e : h[k]? = some (some (.lst (rs.map pD)))) : bSorted2 false [.ref k] h = .ok (.lst ((sP rs).map pD)) h := by
  have e1 : getL h (.ref k) = some (rs.map pD) := by simp only [getL, e]
  simp only [bSorted2, srt2, e1, srtD_prs, mkL_f]
theorem srt_prsL {rs : List (Int × Int)} {h : AH} : bSorted2 false [.lst (rs.map pD)] h = .ok (.lst ((sP rs).map pD)) h := by
  have e1 : getL h (.lst (rs.map pD)) = some (rs.map pD) := rfl
  simp only [bSorted2, srt2, e1, srtD_prs, mkL_f]
def rowsL (P : FP) (xs : List (Nat × Wish)) : List (Int × Int) := (xs.filter fun q => decide (P.floor ≤ q.2.2.2)).map fun q => (Fc P q.2.2.2, (q.1 : Int))
theorem rowsL_len (xs : List (Nat × Wish)) : (rowsL P xs).length ≤ xs.length := by
  unfold rowsL
  rw [List.length_map]
  exact List.length_filter_le _ _
theorem ext_end {h : AH} {xs ys : List D} (hl : xs.length + ys.length ≤ 400) : dIAdd (.ref h.length) (.lst ys) (h ++ [some (.lst xs)]) = .ok (.ref h.length) (h ++ [some (.lst (xs ++ ys))]) := by
  have s1 : xs.length + ys.length ≤ sizeLine := line3' (by omega)
  simp only [dIAdd, listAt, get_end, getLs, okIf_d, s1, if_true, set_end]
theorem aug_nx {i : Nat} {f : D → D → AH → Rv D} {m : ME} {x y z : D} {h1 h2 : AH} (e : σ[i]? = some (some x)) (em : m σ h = .ok y h1) (ef : f x y h1 = .ok z h2) : sAug f i m σ h = .ok (.nx (σ.set i (some z))) h2 := by
  rw [sAug_d, e]
  dsimp only
  rw [em, ofE_ok, augS_d, ef, ofE_ok]
def reBody : MS := (sSeq (sAsg (mMeth 0 "second_for" (fun xs => f_fall_second_for (xs ++ [])) (mVar 0) (mCons (mVar 6) (mNil))) (gmName 7)) (sAug dIAdd 2 (mIf (mTB (mOp dNotN (mVar 7) (mC .non))) (mLst false (mCons (mTup (mCons (mVar 7) (mCons (mVar 3) (mNil)))) (mNil))) (mLst false (mNil)))))
theorem re_step (g : Gd P) (o : Fo P h n nt T now) (rs : List (Int × Int)) (hr : rs.length ≤ 100) (k m p : Int) (w : Str) (v1 a7 a8 a9 : Option D) :
    ∃ b7, reBody [some (.ref n), v1, some (.ref h.length), some (.int k), some (.str w), some (.int m), some (.int p), a7, a8, a9] (h ++ [some (.lst (rs.map pD))]) = .ok (.nx [some (.ref n), v1, some (.ref h.length), some (.int k), some (.str w), some (.int m), some (.int p), b7, a8, a9]) (h ++ [some (.lst ((rs ++ if P.floor ≤ p then [(Fc P p, k)] else []).map pD))]) := by
  have o1 := o.app [some (.lst (rs.map pD))]
  refine ⟨some (sfD P p), ?_⟩
  unfold reBody
  have e1 : mMeth 0 "second_for" (fun xs => f_fall_second_for (xs ++ [])) (mVar 0) (mCons (mVar 6) (mNil)) [some (.ref n), v1, some (.ref h.length), some (.int k), some (.str w), some (.int m), some (.int p), a7, a8, a9] (h ++ [some (.lst (rs.map pD))]) = .ok (sfD P p) (h ++ [some (.lst (rs.map pD))]) := by
    rw [mMeth_d2 (x := .ref n) (xs := [.int p]) (h1 := h ++ [some (.lst (rs.map pD))]) (h2 := h ++ [some (.lst (rs.map pD))]) rfl (o1.rcv rc3) (by simp)]
    exact second_for_ok g o1 p
  rw [seq_nx (asg_nx e1)]
  simp only [List.set_cons_succ, List.set_cons_zero]
  generalize hb : (if P.floor ≤ p then [(Fc P p, k)] else []) = ad
  have hl : ad.length ≤ 1 := by rw [← hb]; split <;> simp
  have e3 : mIf (mTB (mOp dNotN (mVar 7) (mC .non))) (mLst false (mCons (mTup (mCons (mVar 7) (mCons (mVar 3) (mNil)))) (mNil))) (mLst false (mNil)) [some (.ref n), v1, some (.ref h.length), some (.int k), some (.str w), some (.int m), some (.int p), some (sfD P p), a8, a9] (h ++ [some (.lst (rs.map pD))]) = .ok (.lst (ad.map pD)) (h ++ [some (.lst (rs.map pD))]) := by
    rw [← hb]
    unfold sfD
    by_cases q : P.floor ≤ p
    · rw [if_neg (by omega), if_pos q]
      simp [dNotN, isN, line3', pD]
    · rw [if_pos (by omega), if_neg q]
      simp [dNotN, isN, line3']
  have ex := ext_end (h := h) (xs := rs.map pD) (ys := ad.map pD) (by simp; omega)
  rw [← List.map_append] at ex
  exact aug_nx rfl e3 ex
end K04
end
section
set_option Elab.async false
set_option linter.all false
set_option maxRecDepth 100000
namespace K04
open PySem DV L2 SrtO
variable {P : FP} {h : AH} {n nt : Nat} {T : List Take} {now : Int} {σ : AS} {ws : List Wish}
theorem append_end {h : AH} {xs : List D} {d : D} (hl : xs.length ≤ 400) : mtAppend (.ref h.length) [d] (h ++ [some (.lst xs)]) = .ok .non (h ++ [some (.lst (xs ++ [d]))]) := by
  have s1 : xs.length < sizeLine := line3 (by omega)
  simp only [mtAppend, listAt, get_end, s1, if_true, set_end]
theorem isLst_end {h : AH} {xs : List D} : isLst (h ++ [some (.lst xs)]) (.ref h.length) = true := by
  simp only [isLst, getL, get_end]
  rfl
theorem re_loop (g : Gd P) (o : Fo P h n nt T now) (v1 a8 a9 : Option D) : ∀ (xs : List (Nat × Wish)) (rs : List (Int × Int)) (a3 a4 a5 a6 a7 : Option D), rs.length + xs.length ≤ 100 →
    ∃ b3 b4 b5 b6 b7, forL (gmTup 2 (gmCons (gmName 3) (gmCons (gmTup 3 (gmCons (gmName 4) (gmCons (gmName 5) (gmCons (gmName 6) (gmNil))))) (gmNil)))) reBody (xs.map (enE wD)) [some (.ref n), v1, some (.ref h.length), a3, a4, a5, a6, a7, a8, a9] (h ++ [some (.lst (rs.map pD))]) = .ok (.nx [some (.ref n), v1, some (.ref h.length), b3, b4, b5, b6, b7, a8, a9]) (h ++ [some (.lst ((rs ++ rowsL P xs).map pD))])
  | [], rs, a3, a4, a5, a6, a7, _ => ⟨a3, a4, a5, a6, a7, by simp [rowsL]⟩
  | q :: xs, rs, a3, a4, a5, a6, a7, hl => by
    simp only [List.length_cons] at hl
    obtain ⟨b7, e1⟩ := re_step g o rs (by omega) (q.1 : Int) q.2.2.1 q.2.2.2 q.2.1 v1 a7 a8 a9
    obtain ⟨c3, c4, c5, c6, c7, e2⟩ := re_loop g o v1 a8 a9 xs (rs ++ if P.floor ≤ q.2.2.2 then [(Fc P q.2.2.2, (q.1 : Int))] else []) (some (.int (q.1 : Int))) (some (.str q.2.1)) (some (.int q.2.2.1)) (some (.int q.2.2.2)) b7 (by rw [List.length_append]; split <;> simp <;> omega)
    refine ⟨c3, c4, c5, c6, c7, ?_⟩
    have tg : gmTup 2 (gmCons (gmName 3) (gmCons (gmTup 3 (gmCons (gmName 4) (gmCons (gmName 5) (gmCons (gmName 6) (gmNil))))) (gmNil))) (enE wD q) [some (.ref n), v1, some (.ref h.length), a3, a4, a5, a6, a7, a8, a9] (h ++ [some (.lst (rs.map pD))]) = .ok [some (.ref n), v1, some (.ref h.length), some (.int (q.1 : Int)), some (.str q.2.1), some (.int q.2.2.1), some (.int q.2.2.2), a7, a8, a9] (h ++ [some (.lst (rs.map pD))]) := by simp [enE, wD]
    rw [List.map_cons, forL, tg]
    dsimp only
    rw [e1, loopS_nx, e2]
    have er : (rs ++ if P.floor ≤ q.2.2.2 then [(Fc P q.2.2.2, (q.1 : Int))] else []) ++ rowsL P xs = rs ++ rowsL P (q :: xs) := by
      unfold rowsL
      rw [List.filter_cons]
      by_cases z : P.floor ≤ q.2.2.2 <;> simp [z]
    rw [er]
def wAt (ws : List Wish) (k : Int) : Wish := ws.getD k.toNat ("", 0, 0)
def fill (P : FP) (ws : List Wish) : Int → List (Int × Int) → List Take
  | _, [] => []
  | left, q :: r => if 0 < min left (wAt ws q.2).2.1 then (q.1, (wAt ws q.2).1, min left (wAt ws q.2).2.1, Pt P q.1) :: fill P ws (left - min left (wAt ws q.2).2.1) r else fill P ws left r
theorem ix_w {k : Int} (h0 : 0 ≤ k) (h1 : k < ws.length) (h : AH) : ixD (.lst (ws.map wD)) (.int k) h = .ok (wD (wAt ws k)) h := by
  refine ix_lst2 (n := k.toNat) (by omega) ?_
  have hk : k.toNat < ws.length := by omega
  rw [List.getElem?_map, List.getElem?_eq_getElem hk]
  unfold wAt
  simp [hk]
theorem ix_w0 (w : Wish) (h : AH) : ixD (wD w) (.int 0) h = .ok (.str w.1) h := ix_tup2 (n := 0) rfl rfl
theorem ix_w1 (w : Wish) (h : AH) : ixD (wD w) (.int 1) h = .ok (.int w.2.1) h := ix_tup2 (n := 1) rfl rfl
theorem ix_w2 (w : Wish) (h : AH) : ixD (wD w) (.int 2) h = .ok (.int w.2.2) h := ix_tup2 (n := 2) rfl rfl
def fiBody : MS := (sSeq (sAsg (mCB bMin2 (mCons (mVar 9) (mCons (mOp ixD (mOp ixD (mVar 1) (mVar 3)) (mC (.int 1))) (mNil)))) (gmName 5)) (sIf (mTB (mOp dGt (mVar 5) (mC (.int 0)))) (sSeq (sExpr (mBM isLst mtAppend (mVar 8) (mCons (mTup (mCons (mVar 7) (mCons (mOp ixD (mOp ixD (mVar 1) (mVar 3)) (mC (.int 0))) (mCons (mVar 5) (mCons (mMeth 0 "price_at" (fun xs => f_fall_price_at (xs ++ [])) (mVar 0) (mCons (mVar 7) (mNil))) (mNil)))))) (mNil)))) (sAug dMinus 9 (mVar 5))) (sNext)))
theorem fi_step (g : Gd P) (o : Fo P h n nt T now) (q : Int × Int) (h0 : 0 ≤ q.1) (k0 : 0 ≤ q.2) (k1 : q.2 < ws.length) (left : Int) (F : List Take) (hF : F.length ≤ 100) (v2 a4 a5 a6 : Option D) :
    fiBody [some (.ref n), some (.lst (ws.map wD)), v2, some (.int q.2), a4, a5, a6, some (.int q.1), some (.ref h.length), some (.int left)] (h ++ [some (.lst (F.map tD))]) =
      .ok (.nx [some (.ref n), some (.lst (ws.map wD)), v2, some (.int q.2), a4, some (.int (min left (wAt ws q.2).2.1)), a6, some (.int q.1), some (.ref h.length), some (.int (if 0 < min left (wAt ws q.2).2.1 then left - min left (wAt ws q.2).2.1 else left))]) (h ++ [some (.lst ((F ++ if 0 < min left (wAt ws q.2).2.1 then [(q.1, (wAt ws q.2).1, min left (wAt ws q.2).2.1, Pt P q.1)] else []).map tD))]) := by
  have o1 := o.app [some (.lst (F.map tD))]
  have iw := ix_w (ws := ws) k0 k1
  unfold fiBody
  have e1 : mCB bMin2 (mCons (mVar 9) (mCons (mOp ixD (mOp ixD (mVar 1) (mVar 3)) (mC (.int 1))) (mNil))) [some (.ref n), some (.lst (ws.map wD)), v2, some (.int q.2), a4, a5, a6, some (.int q.1), some (.ref h.length), some (.int left)] (h ++ [some (.lst (F.map tD))]) = .ok (.int (min left (wAt ws q.2).2.1)) (h ++ [some (.lst (F.map tD))]) := by
    simp [iw, ix_w1, bMin2_int]
  rw [seq_nx (asg_nx e1)]
  simp only [List.set_cons_succ, List.set_cons_zero]
  generalize min left (wAt ws q.2).2.1 = m at *
  by_cases z : 0 < m
  · rw [if_pos z, if_pos z]
    have ap := append_end (h := h) (xs := F.map tD) (d := tD (q.1, (wAt ws q.2).1, m, Pt P q.1)) (by simp; omega)
    have il := isLst_end (h := h) (xs := F.map tD)
    rw [show F.map tD ++ [tD (q.1, (wAt ws q.2).1, m, Pt P q.1)] = (F ++ [(q.1, (wAt ws q.2).1, m, Pt P q.1)]).map tD by simp] at ap
    generalize h ++ [some (O.lst ((F ++ [(q.1, (wAt ws q.2).1, m, Pt P q.1)]).map tD))] = h3 at *
    generalize h ++ [some (O.lst (F.map tD))] = h2 at *
    have e2 : mMeth 0 "price_at" (fun xs => f_fall_price_at (xs ++ [])) (mVar 0) (mCons (mVar 7) (mNil)) [some (.ref n), some (.lst (ws.map wD)), v2, some (.int q.2), a4, some (.int m), a6, some (.int q.1), some (.ref h.length), some (.int left)] h2 = .ok (.int (Pt P q.1)) h2 := by
      rw [mMeth_d2 (x := .ref n) (xs := [.int q.1]) (h1 := h2) (h2 := h2) rfl (o1.rcv rc1) (by simp)]
      exact price_at_ok g o1 h0
    have e3 : mTup (mCons (mVar 7) (mCons (mOp ixD (mOp ixD (mVar 1) (mVar 3)) (mC (.int 0))) (mCons (mVar 5) (mCons (mMeth 0 "price_at" (fun xs => f_fall_price_at (xs ++ [])) (mVar 0) (mCons (mVar 7) (mNil))) (mNil))))) [some (.ref n), some (.lst (ws.map wD)), v2, some (.int q.2), a4, some (.int m), a6, some (.int q.1), some (.ref h.length), some (.int left)] h2 = .ok (tD (q.1, (wAt ws q.2).1, m, Pt P q.1)) h2 := by
      simp [-mMeth_d, -List.append_nil, iw, ix_w0, e2, line3', tD]
    have e4 : sExpr (mBM isLst mtAppend (mVar 8) (mCons (mTup (mCons (mVar 7) (mCons (mOp ixD (mOp ixD (mVar 1) (mVar 3)) (mC (.int 0))) (mCons (mVar 5) (mCons (mMeth 0 "price_at" (fun xs => f_fall_price_at (xs ++ [])) (mVar 0) (mCons (mVar 7) (mNil))) (mNil)))))) (mNil))) [some (.ref n), some (.lst (ws.map wD)), v2, some (.int q.2), a4, some (.int m), a6, some (.int q.1), some (.ref h.length), some (.int left)] h2 = .ok (.nx [some (.ref n), some (.lst (ws.map wD)), v2, some (.int q.2), a4, some (.int m), a6, some (.int q.1), some (.ref h.length), some (.int left)]) h3 := by
      rw [sExpr_d]
      unfold mBM
      have v8 : mVar 8 [some (.ref n), some (.lst (ws.map wD)), v2, some (.int q.2), a4, some (.int m), a6, some (.int q.1), some (.ref h.length), some (.int left)] h2 = .ok (.ref h.length) h2 := rfl
      rw [v8, bindR_okS, if_pos il, mCons_d, e3, bindR_okS, mNil_d, bindR_okS, bindR_okS, ap, ofE_ok]
    have tt : mTB (mOp dGt (mVar 5) (mC (.int 0))) [some (.ref n), some (.lst (ws.map wD)), v2, some (.int q.2), a4, some (.int m), a6, some (.int q.1), some (.ref h.length), some (.int left)] h2 = .ok true h2 := by simp [dGt_int, z]
    rw [sIf_d, tt, ofE_ok, if_pos rfl, seq_nx e4]
    exact aug_nx (y := .int m) rfl rfl (dMinus_int _ _ _)
  · rw [if_neg z, if_neg z, List.append_nil]
    exact if_no (by simp [dGt_int, z])
theorem fi_loop (g : Gd P) (o : Fo P h n nt T now) (v2 a4 a6 : Option D) : ∀ (rs : List (Int × Int)) (left : Int) (F : List Take) (a3 a5 a7 : Option D), (∀ q ∈ rs, 0 ≤ q.1 ∧ 0 ≤ q.2 ∧ q.2 < ws.length) → F.length + rs.length ≤ 100 →
    ∃ b3 b5 b7 b9, forL (gmTup 2 (gmCons (gmName 7) (gmCons (gmName 3) (gmNil)))) fiBody (rs.map pD) [some (.ref n), some (.lst (ws.map wD)), v2, a3, a4, a5, a6, a7, some (.ref h.length), some (.int left)] (h ++ [some (.lst (F.map tD))]) = .ok (.nx [some (.ref n), some (.lst (ws.map wD)), v2, b3, a4, b5, a6, b7, some (.ref h.length), b9]) (h ++ [some (.lst ((F ++ fill P ws left rs).map tD))])
  | [], left, F, a3, a5, a7, _, _ => ⟨a3, a5, a7, some (.int left), by simp [fill]⟩
  | q :: rs, left, F, a3, a5, a7, hq, hl => by
    simp only [List.length_cons] at hl
    obtain ⟨x0, x1, x2⟩ := hq q (by simp)
    have e1 := fi_step g o q x0 x1 x2 left F (by omega) v2 a4 a5 a6
    obtain ⟨c3, c5, c7, c9, e2⟩ := fi_loop g o v2 a4 a6 rs (if 0 < min left (wAt ws q.2).2.1 then left - min left (wAt ws q.2).2.1 else left) (F ++ if 0 < min left (wAt ws q.2).2.1 then [(q.1, (wAt ws q.2).1, min left (wAt ws q.2).2.1, Pt P q.1)] else []) (some (.int q.2)) (some (.int (min left (wAt ws q.2).2.1))) (some (.int q.1)) (fun x hx => hq x (by simp [hx])) (by rw [List.length_append]; split <;> simp <;> omega)
    refine ⟨c3, c5, c7, c9, ?_⟩
    have tg : gmTup 2 (gmCons (gmName 7) (gmCons (gmName 3) (gmNil))) (pD q) [some (.ref n), some (.lst (ws.map wD)), v2, a3, a4, a5, a6, a7, some (.ref h.length), some (.int left)] (h ++ [some (.lst (F.map tD))]) = .ok [some (.ref n), some (.lst (ws.map wD)), v2, some (.int q.2), a4, a5, a6, some (.int q.1), some (.ref h.length), some (.int left)] (h ++ [some (.lst (F.map tD))]) := by simp [pD]
    rw [List.map_cons, forL, tg]
    dsimp only
    rw [e1, loopS_nx, e2]
    have er : (F ++ if 0 < min left (wAt ws q.2).2.1 then [(q.1, (wAt ws q.2).1, min left (wAt ws q.2).2.1, Pt P q.1)] else []) ++ fill P ws (if 0 < min left (wAt ws q.2).2.1 then left - min left (wAt ws q.2).2.1 else left) rs = F ++ fill P ws left (q :: rs) := by
      rw [fill]
      by_cases z : 0 < min left (wAt ws q.2).2.1
      · rw [if_pos z, if_pos z, if_pos z, List.append_assoc]; rfl
      · rw [if_neg z, if_neg z, if_neg z, List.append_nil]
    rw [er]
theorem Fc_nn (g : Gd P) (p : Int) : 0 ≤ Fc P p := by
  have := g.s1
  unfold Fc
  exact Int.mul_nonneg (Int.le_max_left _ _) (by omega)
theorem enumL_lt {α : Type} : ∀ (xs : List α) (k : Nat), ∀ p ∈ enumL k xs, k ≤ p.1 ∧ p.1 < k + xs.length
  | [], k, p, h => by simp [enumL] at h
  | x :: xs, k, p, h => by
    rcases List.mem_cons.mp (show p ∈ (k, x) :: enumL (k + 1) xs from h) with rfl | h
    · simp
    · have := enumL_lt xs (k + 1) p h
      simp; omega
theorem rowsL_ok (g : Gd P) : ∀ q ∈ rowsL P (enumL 0 ws), 0 ≤ q.1 ∧ 0 ≤ q.2 ∧ q.2 < ws.length := fun q hq => by
  obtain ⟨p, hp, rfl⟩ := List.mem_map.mp hq
  have := enumL_lt ws 0 p (List.mem_filter.mp hp).1
  exact ⟨Fc_nn g _, by simp, by dsimp only; omega⟩
theorem ends_ok (g : Gd P) (o : Fo P h n nt T now) (hw : GW ws) : ∃ xs, f_fall_ends [.ref n, .lst (ws.map wD)] h = .ok (.tup ((fill P ws P.many (sP (rowsL P (enumL 0 ws)))).map tD)) (h ++ xs) := by
  obtain ⟨hl, hw⟩ := hw
  have e0 : PyData.strOk "" = true := by decide +kernel
  have ne : ∀ x ∈ NM, x ≠ "" := by unfold NM; decide
  have rl := rowsL_len (P := P) (enumL 0 ws)
  rw [enumL_len] at rl
  refine ⟨[some (.lst ((rowsL P (enumL 0 ws)).map pD)), some (.lst ((fill P ws P.many (sP (rowsL P (enumL 0 ws)))).map tD))], ?_⟩
  unfold f_fall_ends
  refine runF_rt ?_
  unfold m_fall_ends
  rw [show startA _ _ = [some (.ref n), some (.lst (ws.map wD)), none, none, none, none, none, none, none, none] from rfl]
  have ck : mTru (mGx (miLT (mVar 1)) [4, 5, 6] (gmTup 3 (gmCons (gmName 4) (gmCons (gmName 5) (gmCons (gmName 6) (gmNil))))) (mYes) (mOrV (mOp dEq (mVar 4) (mC (.str ""))) (mOp dLt (mVar 5) (mC (.int 1)))) tkAny false fkB) [some (.ref n), some (.lst (ws.map wD)), none, none, none, none, none, none, none, none] h = .ok false h := by
    rw [mTru_d, mGx_eq (it := itOf (.lst (ws.map wD))) (ds := ws.map wD) (h1 := h) (by simp [itLT, getL]) (itIs_lst _) (line3 (by simp; omega))]
    rw [gxL_none ws (fun w hx => ⟨[some (.ref n), some (.lst (ws.map wD)), none, none, some (.str w.1), some (.int w.2.1), some (.int w.2.2), none, none, none], by simp [wD, wipeA], ?_⟩)]
    · rfl
    · obtain ⟨x1, x2, x3⟩ := hw w hx
      have dq := dEq_str (nm_ok x1) e0 h
      have x2' : ¬ w.2.1 < 1 := by omega
      unfold mOrV
      simp [dq, ne _ x1, dLt_int, x2']
  rw [seq_nx (if_no ck), seq_nx (asg_nx (d := .ref h.length) (h1 := h ++ [some (.lst [])]) (by simp [line3']))]
  simp only [List.set_cons_succ, List.set_cons_zero]
  obtain ⟨b3, b4, b5, b6, b7, lp⟩ := re_loop g o (some (.lst (ws.map wD))) none none (enumL 0 ws) [] none none none none none (by rw [enumL_len]; simp; omega)
  have loop := sFor_eq (mi := miEnum (mCons (mVar 1) (mNil))) (mg := gmTup 2 (gmCons (gmName 3) (gmCons (gmTup 3 (gmCons (gmName 4) (gmCons (gmName 5) (gmCons (gmName 6) (gmNil))))) (gmNil)))) (s := reBody) (σ := [some (.ref n), some (.lst (ws.map wD)), some (.ref h.length), none, none, none, none, none, none, none]) (h := h ++ [some (.lst [])]) (h1 := h ++ [some (.lst [])])
    (it := itEn (.lst (ws.map wD))) (ds := enD 0 (ws.map wD)) (by simp [enIt, getS, getL]) (itIs_en fun _ => rfl) (big3 (by rw [enD_len]; simp; omega))
  rw [enD_map] at loop
  rw [show (([] : List (Int × Int)).map pD) = [] from rfl] at lp
  rw [lp, List.nil_append] at loop
  unfold reBody at loop
  rw [seq_nx loop]
  have o1 := o.app [some (.lst ((rowsL P (enumL 0 ws)).map pD))]
  have sr := srt_prs (rs := rowsL P (enumL 0 ws)) (k := h.length) (h := h ++ [some (.lst ((rowsL P (enumL 0 ws)).map pD))] ++ [some (.lst [])]) (by rw [List.getElem?_append_left (by simp), get_end])
  have hok := rowsL_ok (ws := ws) g
  have hpm : ∀ q ∈ sP (rowsL P (enumL 0 ws)), 0 ≤ q.1 ∧ 0 ≤ q.2 ∧ q.2 < ws.length := fun q hq => hok q ((isortB_perm _).mem_iff.mp hq)
  have spl : (sP (rowsL P (enumL 0 ws))).length = (rowsL P (enumL 0 ws)).length := (isortB_perm _).length_eq
  rw [show (h ++ [some (O.lst ((rowsL P (enumL 0 ws)).map pD)), some (.lst ((fill P ws P.many (sP (rowsL P (enumL 0 ws)))).map tD))]) = h ++ [some (O.lst ((rowsL P (enumL 0 ws)).map pD))] ++ [some (.lst ((fill P ws P.many (sP (rowsL P (enumL 0 ws)))).map tD))] by simp]
  generalize hhd : h ++ [some (O.lst ((rowsL P (enumL 0 ws)).map pD))] = hh at *
  have o2 := o1.app [some (.lst [])]
  have pr : sPar [8, 9] (mCons (mLst true (mNil)) (mCons (mFld [0] "many" (mVar 0)) (mNil))) [some (.ref n), some (.lst (ws.map wD)), some (.ref h.length), b3, b4, b5, b6, b7, none, none] hh = .ok (.nx [some (.ref n), some (.lst (ws.map wD)), some (.ref h.length), b3, b4, b5, b6, b7, some (.ref hh.length), some (.int P.many)]) (hh ++ [some (.lst [])]) := by
    simp [line3', o2.many, parS, parSet]
  rw [seq_nx pr]
  obtain ⟨c3, c5, c7, c9, lp2⟩ := fi_loop (ws := ws) g o1 (some (.ref h.length)) b4 b6 (sP (rowsL P (enumL 0 ws))) P.many [] b3 b5 b7 hpm (by rw [spl]; simp; omega)
  have loop2 := sFor_eq (mi := miLT (mCB (bSorted2 false) (mCons (mVar 2) (mNil)))) (mg := gmTup 2 (gmCons (gmName 7) (gmCons (gmName 3) (gmNil)))) (s := fiBody) (σ := [some (.ref n), some (.lst (ws.map wD)), some (.ref h.length), b3, b4, b5, b6, b7, some (.ref hh.length), some (.int P.many)]) (h := hh ++ [some (.lst [])]) (h1 := hh ++ [some (.lst [])])
    (it := itOf (.lst ((sP (rowsL P (enumL 0 ws))).map pD))) (ds := (sP (rowsL P (enumL 0 ws))).map pD) (by simp [sr, itLT, getL]) (itIs_lst _) (big3 (by rw [List.length_map, spl]; omega))
  rw [show (([] : List Take).map tD) = [] from rfl] at lp2
  rw [lp2, List.nil_append] at loop2
  unfold fiBody at loop2
  rw [seq_nx loop2]
  refine ret_rt ?_
  simp [bTuple, getL, line3']
end K04
end
section
set_option Elab.async false
set_option linter.all false
set_option maxRecDepth 100000
namespace K04
open PySem DV L2 SrtO
variable {P : FP} {h : AH} {n nt : Nat} {T : List Take} {now : Int} {σ : AS} {ws : List Wish}
/-! prices fall -/
theorem ceil_le {a d k : Int} (hd : 0 < d) : (a + d - 1) / d ≤ k ↔ a ≤ k * d := by
  rw [← Int.lt_add_one_iff, Int.ediv_lt_iff_lt_mul hd, Int.add_mul, Int.one_mul]
  omega
theorem Pt_le (g : Gd P) {t p : Int} (h0 : 0 ≤ t) : Pt P t ≤ p ↔ P.floor ≤ p ∧ Fc P p ≤ t := by
  have s1 := g.s1
  have d1 := g.d1
  unfold Pt Fc
  rw [Int.max_le, ← Int.le_ediv_iff_mul_le (by omega : 0 < P.secs), Int.max_le, ceil_le (by omega : 0 < P.drop)]
  have : 0 ≤ t / P.secs := Int.ediv_nonneg h0 (by omega)
  constructor
  · rintro ⟨a, b⟩
    exact ⟨a, this, by omega⟩
  · rintro ⟨a, b, c⟩
    exact ⟨a, by omega⟩
theorem Pt_ge (t : Int) : P.floor ≤ Pt P t := Int.le_max_left _ _
theorem Pt_bd (g : Gd P) {t : Int} (h0 : 0 ≤ t) : 1 ≤ Pt P t ∧ Pt P t ≤ 159 := by
  have s1 := g.s1
  have d1 := g.d1
  have fl := g.fl
  have fb := g.fb
  have fm := g.fm
  have : 0 ≤ t / P.secs * P.drop := Int.mul_nonneg (Int.ediv_nonneg h0 (by omega)) (by omega)
  have := Pt_ge (P := P) t
  refine ⟨by omega, ?_⟩
  unfold Pt
  rw [Int.max_le]
  exact ⟨by omega, by omega⟩
theorem Pt_floor (g : Gd P) {t : Int} (h0 : 0 ≤ t) : Pt P t = P.floor ↔ Fc P P.floor ≤ t := by
  have := Pt_ge (P := P) t
  have e := Pt_le g (p := P.floor) h0
  constructor
  · intro q
    exact (e.mp (by omega)).2
  · intro q
    have := e.mpr ⟨Int.le_refl _, q⟩
    omega
theorem Fc_mono (g : Gd P) {p : Int} (hp : P.floor ≤ p) : Fc P p ≤ Fc P P.floor := by
  have h0 := Fc_nn g P.floor
  have e := (Pt_floor g h0).mpr (Int.le_refl _)
  exact ((Pt_le g (p := p) h0).mp (by omega)).2
theorem Fc_bd (g : Gd P) {p : Int} (hp : P.floor ≤ p) : Fc P p ≤ 1071 := by
  have s1 := g.s1
  have s2 := g.s2
  have d1 := g.d1
  have fb := g.fb
  refine Int.le_trans (Fc_mono g hp) ?_
  unfold Fc
  have k : (P.first - P.floor + P.drop - 1) / P.drop ≤ 119 := by
    rw [ceil_le (by omega)]
    omega
  have : max 0 ((P.first - P.floor + P.drop - 1) / P.drop) ≤ 119 := Int.max_le.mpr ⟨by omega, k⟩
  have h2 : 0 ≤ max 0 ((P.first - P.floor + P.drop - 1) / P.drop) := Int.le_max_left _ _
  generalize max 0 ((P.first - P.floor + P.drop - 1) / P.drop) = m at *
  have : m * P.secs ≤ 119 * 9 := Int.mul_le_mul this s2 (by omega) (by omega)
  omega
/-! the best second -/
def partV (cs : List (Int × Int)) (t : Int) : Int := ((1000 : Int) :: (cs.filter fun c => decide (c.1 ≤ t)).map (·.2)).getLast?.getD 0
def gainV (P : FP) (p : Int) (cs : List (Int × Int)) (t : Int) : Int := partV cs t * (p - Pt P t)
def heres (P : FP) : Nat → Int → List Int
  | 0, _ => []
  | k + 1, t => t :: if t < Fc P P.floor then heres P k (t + P.secs) else []
def upB (P : FP) (p : Int) (cs : List (Int × Int)) (b : Option (Int × Int)) (t : Int) : Option (Int × Int) := match b with
  | none => some (gainV P p cs t, t)
  | some b => if b.1 < gainV P p cs t then some (gainV P p cs t, t) else some b
def fdD : Option (Int × Int) → D
  | none => .non
  | some b => pD b
structure GC (cs : List (Int × Int)) : Prop where
  len : cs.length ≤ 10
  up : ∀ q ∈ nbrs cs, q.1.1 < q.2.1
  pt : ∀ c ∈ cs, 0 ≤ c.2 ∧ c.2 ≤ 1000
theorem partV_bd {cs : List (Int × Int)} (g : GC cs) (t : Int) : 0 ≤ partV cs t ∧ partV cs t ≤ 1000 := by
  unfold partV
  rcases last_or ((1000 : Int) :: (cs.filter fun c => decide (c.1 ≤ t)).map (·.2)) with ⟨q, _⟩ | ⟨l, x, q1, q2⟩
  · cases q
  · rw [q2]
    have hx : x ∈ (1000 : Int) :: (cs.filter fun c => decide (c.1 ≤ t)).map (·.2) := by rw [q1]; simp
    rcases List.mem_cons.mp hx with rfl | hx
    · simp
    · obtain ⟨c, hc, rfl⟩ := List.mem_map.mp hx
      exact g.pt c (List.mem_filter.mp hc).1
/-- the last of [1000] + [share ..] -/
theorem part_lc {cs : List (Int × Int)} (g : GC cs) {a b i j : Nat} {t : Int} (hab : a ≠ b) (ha : a < σ.length) (hb : b < σ.length) (hj : j ≠ a) (hj2 : j ≠ b) (hi : σ[i]? = some (some (.lst (cs.map pD)))) (ht : σ[j]? = some (some (.int t))) :
    mOp (dPlus false) (mLst false (mCons (mC (.int 1000)) (mNil))) (mLc false (miLT (mVar i)) [a, b] (gmTup 2 (gmCons (gmName a) (gmCons (gmName b) (gmNil)))) (mTB (mOp dLe (mVar a) (mVar j))) (mVar b)) σ h = .ok (.lst (((1000 : Int) :: (cs.filter fun c => decide (c.1 ≤ t)).map (·.2)).map D.int)) h := by
  have gl := g.len
  have lc : mLc false (miLT (mVar i)) [a, b] (gmTup 2 (gmCons (gmName a) (gmCons (gmName b) (gmNil)))) (mTB (mOp dLe (mVar a) (mVar j))) (mVar b) σ h = .ok (.lst (((cs.filter fun c => decide (c.1 ≤ t)).map fun c => .int c.2))) h := by
    rw [mLc_eq (it := itOf (.lst (cs.map pD))) (ds := cs.map pD) (h1 := h) (by simp [hi, itLT, getL]) (itIs_lst _) (big3 (by simp; omega))]
    rw [compL_filter (P := fun c => decide (c.1 ≤ t)) (out := fun c => .int c.2) cs (fun c hc => ⟨((wipeA σ [a, b]).set a (some (.int c.1))).set b (some (.int c.2)), by simp [pD], ?_, fun _ => ?_⟩) [] (by simp; omega)]
    · simp
    · have e1 : (((wipeA σ [a, b]).set a (some (.int c.1))).set b (some (.int c.2)))[a]? = some (some (.int c.1)) := by rw [List.getElem?_set_ne (Ne.symm hab), List.getElem?_set_self (by simpa [wipeA] using ha)]
      have e2 : (((wipeA σ [a, b]).set a (some (.int c.1))).set b (some (.int c.2)))[j]? = some (some (.int t)) := by
        rw [List.getElem?_set_ne (Ne.symm hj2), List.getElem?_set_ne (Ne.symm hj)]
        simp only [wipeA]
        rw [List.getElem?_set_ne (Ne.symm hj), List.getElem?_set_ne (Ne.symm hj2), ht]
      simp only [mTB_d, mOp_d, mVar_d, e1, e2, bindR_okS, dLe_int, asB_d]
    · have e1 : (((wipeA σ [a, b]).set a (some (.int c.1))).set b (some (.int c.2)))[b]? = some (some (.int c.2)) := List.getElem?_set_self (by simpa [wipeA] using hb)
      simp only [mVar_d, e1]
  have l1 : mLst false (mCons (mC (.int 1000)) (mNil)) σ h = .ok (.lst [.int 1000]) h := by simp [line3']
  have fl := List.length_filter_le (fun c : Int × Int => decide (c.1 ≤ t)) cs
  have s1 : 1 + (cs.filter fun c => decide (c.1 ≤ t)).length ≤ sizeLine := line3' (by omega)
  rw [mOp_d, l1, bindR_okS, lc, bindR_okS]
  simp [dPlus, dCat, getLs, s1]
theorem part_ix (cs : List (Int × Int)) (t : Int) (h : AH) : ixD (.lst (((1000 : Int) :: (cs.filter fun c => decide (c.1 ≤ t)).map (·.2)).map D.int)) (.int (-1)) h = .ok (.int (partV cs t)) h := by
  unfold partV
  rcases last_or ((1000 : Int) :: (cs.filter fun c => decide (c.1 ≤ t)).map (·.2)) with ⟨q, _⟩ | ⟨l, x, q1, q2⟩
  · cases q
  · rw [q2, q1, List.map_append]
    exact ix_last
def bsBody : MS := (sSeq (sAsg (mOp ixD (mOp (dPlus false) (mLst false (mCons (mC (.int 1000)) (mNil))) (mLc false (miLT (mVar 2)) [9, 10] (gmTup 2 (gmCons (gmName 9) (gmCons (gmName 10) (gmNil)))) (mTB (mOp dLe (mVar 9) (mVar 3))) (mVar 10))) (mNeg (mC (.int 1)))) (gmName 5)) (sSeq (sAsg (mOp (dMul false) (mVar 5) (mOp (dMinus) (mVar 1) (mMeth 0 "price_at" (fun xs => f_fall_price_at (xs ++ [])) (mVar 0) (mCons (mVar 3) (mNil))))) (gmName 6)) (sSeq (sAsg (mIf (mOr (mTB (mOp dIsN (mVar 4) (mC .non))) (mTB (mOp dGt (mVar 6) (mOp ixD (mVar 4) (mC (.int 0)))))) (mTup (mCons (mVar 6) (mCons (mVar 3) (mNil)))) (mVar 4)) (gmName 4)) (sAsg (mIf (mTB (mOp dLt (mVar 3) (mMeth 0 "floor_from" (fun xs => f_fall_floor_from (xs ++ [])) (mVar 0) mNil))) (mOp (dPlus false) (mVar 3) (mFld [0] "seconds" (mVar 0))) (mC .non)) (gmName 3)))))
theorem bs_step (g : Gd P) (o : Fo P h n nt T now) {cs : List (Int × Int)} (c : GC cs) {p t : Int} (h0 : 0 ≤ t) (b : Option (Int × Int)) (a5 a6 : Option D) :
    bsBody [some (.ref n), some (.int p), some (.lst (cs.map pD)), some (.int t), some (fdD b), a5, a6, none, none, none, none] h =
      .ok (.nx [some (.ref n), some (.int p), some (.lst (cs.map pD)), some (if t < Fc P P.floor then .int (t + P.secs) else .non), some (fdD (upB P p cs b t)), some (.int (partV cs t)), some (.int (gainV P p cs t)), none, none, none, none]) h := by
  have pb := partV_bd c t
  unfold bsBody
  have e1 : mOp ixD (mOp (dPlus false) (mLst false (mCons (mC (.int 1000)) (mNil))) (mLc false (miLT (mVar 2)) [9, 10] (gmTup 2 (gmCons (gmName 9) (gmCons (gmName 10) (gmNil)))) (mTB (mOp dLe (mVar 9) (mVar 3))) (mVar 10))) (mNeg (mC (.int 1))) [some (.ref n), some (.int p), some (.lst (cs.map pD)), some (.int t), some (fdD b), a5, a6, none, none, none, none] h = .ok (.int (partV cs t)) h := by
    rw [mOp_d, part_lc (h := h) c (by decide) (by simp) (by simp) (by decide) (by decide) rfl rfl, bindR_okS]
    exact part_ix cs t h
  rw [seq_nx (asg_nx e1)]
  simp only [List.set_cons_succ, List.set_cons_zero]
  have e2 : mMeth 0 "price_at" (fun xs => f_fall_price_at (xs ++ [])) (mVar 0) (mCons (mVar 3) (mNil)) [some (.ref n), some (.int p), some (.lst (cs.map pD)), some (.int t), some (fdD b), some (.int (partV cs t)), a6, none, none, none, none] h = .ok (.int (Pt P t)) h := by
    rw [mMeth_d2 (x := .ref n) (xs := [.int t]) (h1 := h) (h2 := h) rfl (o.rcv rc1) (by simp)]
    exact price_at_ok g o h0
  rw [seq_nx (asg_nx (d := .int (gainV P p cs t)) (h1 := h) (by simp [-mMeth_d, -List.append_nil, e2, dMinus_int, dMul_int (cmul_left pb.1 (by omega) : CMul (partV cs t) (p - Pt P t)), gainV]))]
  simp only [List.set_cons_succ, List.set_cons_zero]
  have e3 : mIf (mOr (mTB (mOp dIsN (mVar 4) (mC .non))) (mTB (mOp dGt (mVar 6) (mOp ixD (mVar 4) (mC (.int 0)))))) (mTup (mCons (mVar 6) (mCons (mVar 3) (mNil)))) (mVar 4) [some (.ref n), some (.int p), some (.lst (cs.map pD)), some (.int t), some (fdD b), some (.int (partV cs t)), some (.int (gainV P p cs t)), none, none, none, none] h = .ok (fdD (upB P p cs b t)) h := by
    cases b with
    | none => simp [fdD, dIsN, isN, line3', upB, pD]
    | some b =>
      have i0 : ixD (pD b) (.int 0) h = .ok (.int b.1) h := ix_tup2 (n := 0) rfl rfl
      have nn : isN (pD b) = false := rfl
      unfold upB
      by_cases q : b.1 < gainV P p cs t
      · simp [fdD, dIsN, nn, i0, dGt_int, q, line3']
        rfl
      · simp [fdD, dIsN, nn, i0, dGt_int, q]
  rw [seq_nx (asg_nx e3)]
  simp only [List.set_cons_succ, List.set_cons_zero]
  have e4 : mMeth 0 "floor_from" (fun xs => f_fall_floor_from (xs ++ [])) (mVar 0) mNil [some (.ref n), some (.int p), some (.lst (cs.map pD)), some (.int t), some (fdD (upB P p cs b t)), some (.int (partV cs t)), some (.int (gainV P p cs t)), none, none, none, none] h = .ok (.int (Fc P P.floor)) h := by
    rw [mMeth_d2 (x := .ref n) (xs := []) (h1 := h) (h2 := h) rfl (o.rcv rc2) rfl]
    exact floor_from_ok g o
  refine asg_nx ?_
  by_cases q : t < Fc P P.floor
  · rw [if_pos q]
    simp [-mMeth_d, -List.append_nil, e4, dLt_int, q, o.secs, dPlus_int]
  · rw [if_neg q]
    simp [-mMeth_d, -List.append_nil, e4, dLt_int, q]
theorem bs_while (g : Gd P) (o : Fo P h n nt T now) {cs : List (Int × Int)} (c : GC cs) {p : Int} : ∀ (k : Nat) (t : Int) (N : Nat) (b : Option (Int × Int)) (a5 a6 : Option D), 0 ≤ t → (Fc P P.floor - t).toNat < k → k < N →
    ∃ b5 b6, whileN (mTB (mOp dNotN (mVar 3) (mC .non))) bsBody N [some (.ref n), some (.int p), some (.lst (cs.map pD)), some (.int t), some (fdD b), a5, a6, none, none, none, none] h = .ok (.nx [some (.ref n), some (.int p), some (.lst (cs.map pD)), some .non, some (fdD ((heres P k t).foldl (upB P p cs) b)), b5, b6, none, none, none, none]) h
  | 0, t, N, b, a5, a6, h0, hk, hN => by omega
  | k + 1, t, 0, b, a5, a6, h0, hk, hN => by omega
  | k + 1, t, N + 1, b, a5, a6, h0, hk, hN => by
    have s1 := g.s1
    rw [while_go (h1 := h) (by simp [dNotN, isN]) (bs_step g o c h0 b a5 a6), heres, List.foldl_cons]
    by_cases q : t < Fc P P.floor
    · rw [if_pos q, if_pos q]
      exact bs_while g o c k (t + P.secs) N _ _ _ (by omega) (by omega) (by omega)
    · rw [if_neg q, if_neg q]
      refine ⟨some (.int (partV cs t)), some (.int (gainV P p cs t)), ?_⟩
      cases N with
      | zero => omega
      | succ N => rw [while_end (h1 := h) (by simp [dNotN, isN])]; rfl
def bestV (P : FP) (p : Int) (cs : List (Int × Int)) : Option (Int × Int) := if p < P.floor then none else (heres P 1100 (Fc P p)).foldl (upB P p cs) none
theorem best_ok (g : Gd P) (o : Fo P h n nt T now) {cs : List (Int × Int)} (c : GC cs) (p : Int) : f_best_second [.ref n, .int p, .lst (cs.map pD)] h = .ok (fdD (bestV P p cs)) h := by
  have gl := c.len
  have nl := nbrs_len cs
  unfold f_best_second
  refine runF_rt ?_
  unfold m_best_second
  rw [show startA _ _ = [some (.ref n), some (.int p), some (.lst (cs.map pD)), none, none, none, none, none, none, none, none] from rfl]
  have c1 : mTru (mGx (miZip2 (mCons (mVar 2) (mCons (mSl false (mVar 2) (mPS (mC (.int 1))) (mPN)) (mNil)))) [7, 8] (gmTup 2 (gmCons (gmName 7) (gmCons (gmName 8) (gmNil)))) (mYes) (mOp dLe (mOp ixD (mVar 8) (mC (.int 0))) (mOp ixD (mVar 7) (mC (.int 0)))) tkAny false fkB) [some (.ref n), some (.int p), some (.lst (cs.map pD)), none, none, none, none, none, none, none, none] h = .ok false h := by
    have zi : miZip2 (mCons (mVar 2) (mCons (mSl false (mVar 2) (mPS (mC (.int 1))) (mPN)) (mNil))) [some (.ref n), some (.int p), some (.lst (cs.map pD)), none, none, none, none, none, none, none, none] h = .ok (itZp (.lst (cs.map pD)) (.lst (cs.tail.map pD))) h := by
      simp [miZip2, zA, zpIt2, zpIt, slD, getL, cut_tl]
    have zs : ItIs (itZp (.lst (cs.map pD)) (.lst (cs.tail.map pD))) ((nbrs cs).map (pairE pD)) := by
      rw [← zip_nbrs]
      exact itIs_zp (fun _ => rfl) fun _ => rfl
    rw [mTru_d, mGx_eq zi zs (line3 (by simp; omega))]
    rw [gxL_none (nbrs cs) (fun q hq => ⟨[some (.ref n), some (.int p), some (.lst (cs.map pD)), none, none, none, none, some (pD q.1), some (pD q.2), none, none], by simp [pairE, wipeA], ?_⟩)]
    · rfl
    · have i0 : ∀ x : Int × Int, ixD (pD x) (.int 0) h = .ok (.int x.1) h := fun x => ix_tup2 (n := 0) rfl rfl
      have := c.up q hq
      have z : ¬ q.2.1 ≤ q.1.1 := by omega
      simp [i0, dLe_int, z]
  have c2 : mTru (mGx (miLT (mVar 2)) [9, 5] (gmTup 2 (gmCons (gmName 9) (gmCons (gmName 5) (gmNil)))) (mYes) (mNotV (mChain dLe dLe (mC (.int 0)) (mVar 5) (mC (.int 1000)))) tkAny false fkB) [some (.ref n), some (.int p), some (.lst (cs.map pD)), none, none, none, none, none, none, none, none] h = .ok false h := by
    rw [mTru_d, mGx_eq (it := itOf (.lst (cs.map pD))) (ds := cs.map pD) (h1 := h) (by simp [itLT, getL]) (itIs_lst _) (line3 (by simp; omega))]
    rw [gxL_none cs (fun q hq => ⟨[some (.ref n), some (.int p), some (.lst (cs.map pD)), none, none, some (.int q.2), none, none, none, some (.int q.1), none], by simp [pD, wipeA], ?_⟩)]
    · rfl
    · have := c.pt q hq
      simp [dLe_int, this.1, this.2]
  rw [seq_nx (if_no c1), seq_nx (if_no c2)]
  have e3 : sAsg (mTup (mCons (mMeth 0 "second_for" (fun xs => f_fall_second_for (xs ++ [])) (mVar 0) (mCons (mVar 1) (mNil))) (mCons (mC .non) (mNil)))) (gmTup 2 (gmCons (gmName 3) (gmCons (gmName 4) (gmNil)))) [some (.ref n), some (.int p), some (.lst (cs.map pD)), none, none, none, none, none, none, none, none] h = .ok (.nx [some (.ref n), some (.int p), some (.lst (cs.map pD)), some (sfD P p), some .non, none, none, none, none, none, none]) h := by
    have e2 : mMeth 0 "second_for" (fun xs => f_fall_second_for (xs ++ [])) (mVar 0) (mCons (mVar 1) (mNil)) [some (.ref n), some (.int p), some (.lst (cs.map pD)), none, none, none, none, none, none, none, none] h = .ok (sfD P p) h := by
      rw [mMeth_d2 (x := .ref n) (xs := [.int p]) (h1 := h) (h2 := h) rfl (o.rcv rc3) (by simp)]
      exact second_for_ok g o p
    simp [-mMeth_d, -List.append_nil, e2, line3']
  rw [seq_nx e3]
  have key : ∃ b5 b6, sWhile (mTB (mOp dNotN (mVar 3) (mC .non))) bsBody [some (.ref n), some (.int p), some (.lst (cs.map pD)), some (sfD P p), some .non, none, none, none, none, none, none] h = .ok (.nx [some (.ref n), some (.int p), some (.lst (cs.map pD)), some .non, some (fdD (bestV P p cs)), b5, b6, none, none, none, none]) h := by
    have big : 1100 < bigN := by unfold bigN; decide
    unfold sWhile sfD bestV
    by_cases q : p < P.floor
    · rw [if_pos q, if_pos q]
      refine ⟨none, none, ?_⟩
      rw [show bigN = (bigN - 1) + 1 by omega, while_end (h1 := h) (by simp [dNotN, isN])]
      rfl
    · rw [if_neg q, if_neg q]
      have b1 := Fc_bd g (Int.le_refl P.floor)
      have b0 := Fc_nn g p
      exact bs_while g o c 1100 (Fc P p) bigN none none none b0 (by omega) big
  obtain ⟨b5, b6, e4⟩ := key
  unfold bsBody at e4
  rw [seq_nx e4]
  exact ret_rt rfl
end K04
end
section
set_option Elab.async false
set_option linter.all false
set_option maxRecDepth 100000
namespace K04
open PySem DV L2 SrtO
def lawS1 : MS := (sAsg (mOp (dPlus false) (mC (.int 1)) (mCall (fun xs => f_law_roll (xs ++ [])) (mCons (mVar 1) (mCons (mC (.int 40)) (mNil))))) (gmName 2))
def lawS2 : MS := (sAsg (mTup (mCons (mOp (dPlus false) (mVar 2) (mCall (fun xs => f_law_roll (xs ++ [])) (mCons (mVar 1) (mCons (mC (.int 120)) (mNil))))) (mCons (mOp (dPlus false) (mC (.int 1)) (mCall (fun xs => f_law_roll (xs ++ [])) (mCons (mVar 1) (mCons (mC (.int 20)) (mNil))))) (mCons (mOp (dPlus false) (mC (.int 1)) (mCall (fun xs => f_law_roll (xs ++ [])) (mCons (mVar 1) (mCons (mC (.int 9)) (mNil))))) (mCons (mOp (dPlus false) (mC (.int 1)) (mCall (fun xs => f_law_roll (xs ++ [])) (mCons (mVar 1) (mCons (mC (.int 9)) (mNil))))) (mNil)))))) (gmTup 4 (gmCons (gmName 3) (gmCons (gmName 4) (gmCons (gmName 5) (gmCons (gmName 6) (gmNil)))))))
def lawS3 : MS := (sAsg (mTup (mCons (mMake 0 (fun xs => f_fall_init (xs ++ [])) (mCons (mVar 3) (mCons (mVar 4) (mCons (mVar 5) (mCons (mVar 2) (mCons (mVar 6) (mNil))))))) (mCons (mLst false (mNil)) (mNil)))) (gmTup 2 (gmCons (gmName 7) (gmCons (gmName 8) (gmNil)))))
def lawS4 : MS := (sAsg (mLc false (miCall rg1D (mCons (mC (.int 1200)) (mNil))) [24] (gmName 24) (mYes) (mCB bMax2 (mCons (mVar 2) (mCons (mOp (dMinus) (mVar 3) (mOp (dMul false) (mOp (dDiv) (mVar 24) (mVar 5)) (mVar 4))) (mNil))))) (gmName 9))
def lawS5 : MS := (sAsg (mC (.int 0)) (gmName 10))
def lawS6 : MS := (sFor (miCall rg1D (mCons (mCall (fun xs => f_law_roll (xs ++ [])) (mCons (mVar 1) (mCons (mC (.int 12)) (mNil)))) (mNil))) (gmName 11) (sSeq (sAsg (mTup (mCons (mOp ixD (mLst false (mCons (mC (.str "a")) (mCons (mC (.str "b")) (mCons (mC (.str "c")) (mCons (mC (.str "")) (mNil)))))) (mOp (dDiv) (mCall (fun xs => f_law_roll (xs ++ [])) (mCons (mVar 1) (mCons (mC (.int 13)) (mNil)))) (mC (.int 4)))) (mCons (mCall (fun xs => f_law_roll (xs ++ [])) (mCons (mVar 1) (mCons (mC (.int 4)) (mNil)))) (mCons (mOp (dMinus) (mOp (dPlus false) (mVar 10) (mCall (fun xs => f_law_roll (xs ++ [])) (mCons (mVar 1) (mCons (mC (.int 20)) (mNil))))) (mOp (dMul false) (mCB bInt (mCons (mOp dEq (mCall (fun xs => f_law_roll (xs ++ [])) (mCons (mVar 1) (mCons (mC (.int 16)) (mNil)))) (mC (.int 0))) (mNil))) (mC (.int 20)))) (mNil))))) (gmTup 3 (gmCons (gmName 12) (gmCons (gmName 13) (gmCons (gmName 14) (gmNil)))))) (sSeq (sAsg (mOp (dMinus) (mVar 6) (mCB bSum (mCons (mLc false (miLT (mVar 8)) [30] (gmName 30) (mYes) (mOp ixD (mVar 30) (mC (.int 2)))) (mNil)))) (gmName 15)) (sSeq (sAsg (mAndV (mOp dNe (mVar 12) (mC (.str ""))) (mAndV (mChain dLe dLe (mC (.int 1)) (mVar 13) (mVar 15)) (mOp dGe (mVar 14) (mVar 10)))) (gmName 16)) (sSeq (sAsg (mOp (dPlus false) (mVar 8) (mIf (mTru (mVar 16)) (mLst false (mCons (mTup (mCons (mVar 14) (mCons (mVar 12) (mCons (mVar 13) (mCons (mOp ixD (mVar 9) (mVar 14)) (mNil)))))) (mNil))) (mLst false (mNil)))) (gmName 8)) (sSeq (sAsg (mIf (mTru (mVar 16)) (mVar 14) (mVar 10)) (gmName 10)) (sSeq (sIf (mTB (mOp dNe (mTold 1 "FallError" (mMeth 0 "take_some" (fun xs => f_fall_take_some (xs ++ [])) (mVar 7) (mCons (mVar 12) (mCons (mVar 13) (mCons (mVar 14) (mNil)))))) (mIf (mTru (mVar 16)) (mOp (dMul false) (mVar 13) (mOp ixD (mVar 9) (mVar 14))) (mC (.str "FallError"))))) (sRet (mC (.bl false))) (sNext)) (sIf (mOr (mTB (mOp dNe (mFld [0] "takes" (mVar 7)) (mVar 8))) (mTB (mOp dNe (mMeth 0 "left_now" (fun xs => f_fall_left_now (xs ++ [])) (mVar 7) mNil) (mOp (dMinus) (mVar 6) (mCB bSum (mCons (mLc false (miLT (mVar 8)) [30] (gmName 30) (mYes) (mOp ixD (mVar 30) (mC (.int 2)))) (mNil))))))) (sRet (mC (.bl false))) (sNext)))))))))
def lawS7 : MS := (sAsg (mCall (fun xs => f_law_roll (xs ++ [])) (mCons (mVar 1) (mCons (mC (.int 180)) (mNil)))) (gmName 17))
def lawS8 : MS := (sAsg (mLc false (miCall rg1D (mCons (mC (.int 1200)) (mNil))) [24] (gmName 24) (mTB (mOp dLe (mOp ixD (mVar 9) (mVar 24)) (mVar 17))) (mVar 24)) (gmName 18))
def lawS9 : MS := (sIf (mTB (mOp dNe (mLc false (miCall rg3D (mCons (mC (.int 0)) (mCons (mC (.int 300)) (mCons (mC (.int 7)) (mNil))))) [24] (gmName 24) (mYes) (mMeth 0 "price_at" (fun xs => f_fall_price_at (xs ++ [])) (mVar 7) (mCons (mVar 24) (mNil)))) (mSlS false 7 (mVar 9) (mPS (mC (.int 0))) (mPS (mC (.int 300)))))) (sRet (mC (.bl false))) (sNext))
def lawS10 : MS := (sIf (mOr (mTB (mOp dNe (mMeth 0 "floor_from" (fun xs => f_fall_floor_from (xs ++ [])) (mVar 7) mNil) (mBM isLst mtIndex (mVar 9) (mCons (mVar 2) (mNil))))) (mTB (mOp dNe (mMeth 0 "second_for" (fun xs => f_fall_second_for (xs ++ [])) (mVar 7) (mCons (mVar 17) (mNil))) (mIf (mTB (mOp dNe (mVar 18) (mLst false (mNil)))) (mOp ixD (mVar 18) (mC (.int 0))) (mC .non))))) (sRet (mC (.bl false))) (sNext))
def lawS11 : MS := (sAsg (mCB (bSorted2 false) (mCons (mCB (bDict false) (mCons (mLc false (miLT (mVar 8)) [30] (gmName 30) (mYes) (mTup (mCons (mOp ixD (mVar 30) (mC (.int 1))) (mCons (mC (.int 1)) (mNil))))) (mNil))) (mNil))) (gmName 19))
def lawS12 : MS := (sAsg (mLc false (miLT (mVar 19)) [12] (gmName 12) (mYes) (mTup (mCons (mVar 12) (mCons (mLc false (miLT (mVar 8)) [30] (gmName 30) (mTB (mOp dEq (mOp ixD (mVar 30) (mC (.int 1))) (mVar 12))) (mVar 30)) (mNil))))) (gmName 20))
def lawS13 : MS := (sIf (mOr (mTB (mOp dNe (mItems (mMeth 0 "paid_by" (fun xs => f_fall_paid_by (xs ++ [])) (mVar 7) mNil)) (mLc false (miLT (mVar 20)) [12, 23] (gmTup 2 (gmCons (gmName 12) (gmCons (gmName 23) (gmNil)))) (mYes) (mTup (mCons (mVar 12) (mCons (mTup (mCons (mCB bSum (mCons (mLc false (miLT (mVar 23)) [30] (gmName 30) (mYes) (mOp ixD (mVar 30) (mC (.int 2)))) (mNil))) (mCons (mCB bSum (mCons (mLc false (miLT (mVar 23)) [30] (gmName 30) (mYes) (mOp (dMul false) (mOp ixD (mVar 30) (mC (.int 2))) (mOp ixD (mVar 30) (mC (.int 3))))) (mNil))) (mNil)))) (mNil))))))) (mOr (mTB (mOp dNe (mMeth 0 "whole_price" (fun xs => f_fall_whole_price (xs ++ [])) (mVar 7) mNil) (mCB bSum (mCons (mLc false (miLT (mVar 8)) [30] (gmName 30) (mYes) (mOp (dMul false) (mOp ixD (mVar 30) (mC (.int 2))) (mOp ixD (mVar 30) (mC (.int 3))))) (mNil))))) (mOr (mTB (mOp dNe (mMeth 0 "at_last_price" (fun xs => f_fall_at_last_price (xs ++ [])) (mVar 7) mNil) (mIf (mTB (mOp dNe (mVar 8) (mLst false (mNil)))) (mOp (dMul false) (mCB bSum (mCons (mLc false (miLT (mVar 8)) [30] (gmName 30) (mYes) (mOp ixD (mVar 30) (mC (.int 2)))) (mNil))) (mOp ixD (mOp ixD (mVar 8) (mNeg (mC (.int 1)))) (mC (.int 3)))) (mC (.int 0))))) (mTB (mOp dNe (mCB (bList false) (mCons (mMeth 0 "take_lines" (fun xs => f_fall_take_lines (xs ++ [])) (mVar 7) mNil) (mNil))) (mLc false (miLT (mVar 8)) [30] (gmName 30) (mYes) (mJoin (mC (.str " ")) (mLc false (miLT (mVar 30)) [29] (gmName 29) (mYes) (mCB bStr (mCons (mVar 29) (mNil))))))))))) (sRet (mC (.bl false))) (sNext))
def lawS14 : MS := (sAsg (mLc false (miCall rg1D (mCons (mCall (fun xs => f_law_roll (xs ++ [])) (mCons (mVar 1) (mCons (mC (.int 6)) (mNil)))) (mNil))) [25] (gmName 25) (mYes) (mTup (mCons (mOp ixD (mLst false (mCons (mC (.str "a")) (mCons (mC (.str "b")) (mCons (mC (.str "c")) (mNil))))) (mCall (fun xs => f_law_roll (xs ++ [])) (mCons (mVar 1) (mCons (mC (.int 3)) (mNil))))) (mCons (mOp (dPlus false) (mC (.int 1)) (mCall (fun xs => f_law_roll (xs ++ [])) (mCons (mVar 1) (mCons (mC (.int 4)) (mNil))))) (mCons (mCall (fun xs => f_law_roll (xs ++ [])) (mCons (mVar 1) (mCons (mC (.int 180)) (mNil)))) (mNil)))))) (gmName 21))
def lawS15 : MS := (sPar [22, 15] (mCons (mLst false (mNil)) (mCons (mVar 6) (mNil))))
def lawS16 : MS := (sAsg (mCB (bSorted2 false) (mCons (mLc false (miEnum (mCons (mVar 21) (mNil))) [25, 31] (gmTup 2 (gmCons (gmName 25) (gmCons (gmName 31) (gmNil)))) (mTB (mOp dGe (mOp ixD (mVar 31) (mC (.int 2))) (mVar 2))) (mTup (mCons (mOp ixD (mLc false (miCall rg1D (mCons (mC (.int 1200)) (mNil))) [24] (gmName 24) (mTB (mOp dLe (mOp ixD (mVar 9) (mVar 24)) (mOp ixD (mVar 31) (mC (.int 2))))) (mVar 24)) (mC (.int 0))) (mCons (mVar 25) (mNil))))) (mNil))) (gmName 23))
def lawS17 : MS := (sFor (miLT (mVar 23)) (gmTup 2 (gmCons (gmName 24) (gmCons (gmName 25) (gmNil)))) (sSeq (sAsg (mOp (dPlus false) (mVar 22) (mOp (dMul false) (mLst false (mCons (mTup (mCons (mVar 24) (mCons (mOp ixD (mOp ixD (mVar 21) (mVar 25)) (mC (.int 0))) (mCons (mCB bMin2 (mCons (mVar 15) (mCons (mOp ixD (mOp ixD (mVar 21) (mVar 25)) (mC (.int 1))) (mNil)))) (mCons (mOp ixD (mVar 9) (mVar 24)) (mNil)))))) (mNil))) (mCB bInt (mCons (mOp dGt (mVar 15) (mC (.int 0))) (mNil))))) (gmName 22)) (sAsg (mOp (dMinus) (mVar 15) (mCB bMin2 (mCons (mVar 15) (mCons (mOp ixD (mOp ixD (mVar 21) (mVar 25)) (mC (.int 1))) (mNil))))) (gmName 15))))
def lawS18 : MS := (sIf (mTB (mOp dNe (mCB (bList false) (mCons (mCall (fun xs => f_fall_ends (xs ++ [])) (mCons (mMake 0 (fun xs => f_fall_init (xs ++ [])) (mCons (mVar 3) (mCons (mVar 4) (mCons (mVar 5) (mCons (mVar 2) (mCons (mVar 6) (mNil))))))) (mCons (mVar 21) (mNil)))) (mNil))) (mVar 22))) (sRet (mC (.bl false))) (sNext))
def lawS19 : MS := (sPar [26, 24] (mCons (mLst false (mNil)) (mCons (mC (.int 0)) (mNil))))
def lawS20 : MS := (sFor (miCall rg1D (mCons (mCall (fun xs => f_law_roll (xs ++ [])) (mCons (mVar 1) (mCons (mC (.int 4)) (mNil)))) (mNil))) (gmName 25) (sSeq (sAsg (mOp (dPlus false) (mOp (dPlus false) (mVar 24) (mC (.int 1))) (mCall (fun xs => f_law_roll (xs ++ [])) (mCons (mVar 1) (mCons (mC (.int 30)) (mNil))))) (gmName 24)) (sAsg (mOp (dPlus false) (mVar 26) (mLst false (mCons (mTup (mCons (mVar 24) (mCons (mCall (fun xs => f_law_roll (xs ++ [])) (mCons (mVar 1) (mCons (mC (.int 1001)) (mNil)))) (mNil)))) (mNil)))) (gmName 26))))
def lawS21 : MS := (sAsg (mTup (mCons (mLst false (mNil)) (mCons (mIf (mTB (mOp dNe (mVar 18) (mLst false (mNil)))) (mOp ixD (mVar 18) (mC (.int 0))) (mC .non)) (mNil)))) (gmTup 2 (gmCons (gmName 27) (gmCons (gmName 28) (gmNil)))))
def lawS22 : MS := (sWhile (mTB (mOp dNotN (mVar 28) (mC .non))) (sSeq (sAsg (mOp (dPlus false) (mLst false (mCons (mC (.int 1000)) (mNil))) (mLc false (miLT (mVar 26)) [14, 32] (gmTup 2 (gmCons (gmName 14) (gmCons (gmName 32) (gmNil)))) (mTB (mOp dLe (mVar 14) (mVar 28))) (mVar 32))) (gmName 29)) (sSeq (sAsg (mOp (dPlus false) (mVar 27) (mLst false (mCons (mTup (mCons (mOp (dMul false) (mNeg (mOp ixD (mVar 29) (mNeg (mC (.int 1))))) (mOp (dMinus) (mVar 17) (mOp ixD (mVar 9) (mVar 28)))) (mCons (mVar 28) (mNil)))) (mNil)))) (gmName 27)) (sAsg (mIf (mTB (mOp dLt (mVar 28) (mBM isLst mtIndex (mVar 9) (mCons (mVar 2) (mNil))))) (mOp (dPlus false) (mVar 28) (mVar 5)) (mC .non)) (gmName 28)))))
def lawS23 : MS := (sIf (mTB (mOp dNe (mCall (fun xs => f_best_second (xs ++ [])) (mCons (mVar 7) (mCons (mVar 17) (mCons (mVar 26) (mNil))))) (mIf (mTB (mOp dNe (mVar 27) (mLst false (mNil)))) (mTup (mCons (mNeg (mOp ixD (mCB bMinG (mCons (mVar 27) (mNil))) (mC (.int 0)))) (mCons (mOp ixD (mCB bMinG (mCons (mVar 27) (mNil))) (mC (.int 1))) (mNil)))) (mC .non)))) (sRet (mC (.bl false))) (sNext))
def lawS24 : MS := (sIf (mAnd (mTB (mOp dNe (mVar 21) (mLst false (mNil)))) (mTB (mOp dNe (mCall (fun xs => f_gain_of (xs ++ [])) (mCons (mVar 7) (mCons (mOp ixD (mVar 21) (mC (.int 0))) (mCons (mVar 24) (mNil))))) (mOp (dMul false) (mOp ixD (mOp ixD (mVar 21) (mC (.int 0))) (mC (.int 1))) (mOp (dMinus) (mOp ixD (mOp ixD (mVar 21) (mC (.int 0))) (mC (.int 2))) (mOp ixD (mVar 9) (mVar 24))))))) (sRet (mC (.bl false))) (sNext))
def lawB : MS := (sSeq lawS1 (sSeq lawS2 (sSeq lawS3 (sSeq lawS4 (sSeq lawS5 (sSeq lawS6 (sSeq lawS7 (sSeq lawS8 (sSeq lawS9 (sSeq lawS10 (sSeq lawS11 (sSeq lawS12 (sSeq lawS13 (sSeq lawS14 (sSeq lawS15 (sSeq lawS16 (sSeq lawS17 (sSeq lawS18 (sSeq lawS19 (sSeq lawS20 (sSeq lawS21 (sSeq lawS22 (sSeq lawS23 lawS24)))))))))))))))))))))))
theorem m_law_eq : m_law = sSeq (sFor (miLT (mCall (fun xs => f_law_rounds (xs ++ [])) (mCons (mVar 0) (mCons (mC (.int 1)) (mNil))))) (gmName 1) lawB) (sRet (mCallN f_law_plain)) := rfl
end K04
end
section
set_option Elab.async false
set_option linter.all false
set_option maxRecDepth 100000
namespace K04
open PySem DV L2 SrtO
variable {P : FP} {h : AH} {n nt : Nat} {T : List Take} {now : Int} {σ : AS} {ws : List Wish}
theorem wipe_ne : ∀ {vs : List Nat} {j : Nat}, j ∉ vs → (wipeA σ vs)[j]? = σ[j]?
  | [], j, _ => rfl
  | v :: vs, j, h => by
    simp only [List.mem_cons, not_or] at h
    rw [wipeA, List.getElem?_set_ne (Ne.symm h.1), wipe_ne h.2]
/-- the dice lie at 0, a fall at n -/
structure Hh (P : FP) (h : AH) (n nt : Nat) (T : List Take) (now : Int) : Prop where
  dh : Dh h
  fo : Fo P h n nt T now
theorem Hh.n0 (H : Hh P h n nt T now) : n ≠ 0 := by
  rintro rfl
  obtain ⟨a, b, m, e⟩ := H.dh
  rw [H.fo.ins] at e
  cases e
theorem Hh.nt0 (H : Hh P h n nt T now) : nt ≠ 0 := by
  rintro rfl
  obtain ⟨a, b, m, e⟩ := H.dh
  rw [H.fo.tk] at e
  cases T with
  | nil => cases e
  | cons r T =>
    simp only [List.map_cons, dce, Option.some.injEq, O.lst.injEq, List.cons.injEq] at e
    cases e.1
theorem Hh.app (H : Hh P h n nt T now) (xs : AH) : Hh P (h ++ xs) n nt T now := by
  refine ⟨?_, H.fo.app xs⟩
  obtain ⟨a, b, m, e⟩ := H.dh
  exact ⟨a, b, m, by rw [List.getElem?_append_left (List.getElem?_eq_some_iff.mp e).1, e]⟩
theorem Hh.roll (H : Hh P h n nt T now) (many : Int) (h0 : 0 < many) (h1 : many ≤ 100000000) : ∃ r h', 0 ≤ r ∧ r < many ∧ Hh P h' n nt T now ∧ f_law_roll [.ref 0, .int many] h = .ok (.int r) h' := by
  have d := H.dh
  obtain ⟨a, b, m, e⟩ := H.dh
  obtain ⟨r, a', b', m', p1, p2, p3⟩ := roll_ok e h0 h1
  exact ⟨r, _, p1, p2, ⟨d.set, ⟨by rw [List.getElem?_set_ne (Ne.symm H.n0), H.fo.ins], by rw [List.getElem?_set_ne (Ne.symm H.nt0), H.fo.tk]⟩⟩, p3⟩
/-! long lists -/
theorem line5 {n : Nat} (h : n ≤ 100000) : n < sizeLine := by rw [sizeLine_eq]; omega
theorem big5 {n : Nat} (h : n ≤ 100000) : n < bigN := by simp [bigN]; omega
theorem compL_filterB {α : Type} {enc out : α → D} {P : α → Bool} {mg : MG} {mt : MT} {me : ME} {σ : AS} {h : AH} : ∀ (ds : List α), (∀ x ∈ ds, ∃ σ', mg (enc x) σ h = .ok σ' h ∧ mt σ' h = .ok (P x) h ∧ (P x = true → me σ' h = .ok (out x) h)) →
    ∀ acc : List D, acc.length + ds.length ≤ 100000 → compL mg mt me (ds.map enc) σ acc h = .ok (acc ++ (ds.filter P).map out) h
  | [], _, acc, _ => by simp [compL]
  | x :: ds, hs, acc, hl => by
    simp only [List.length_cons] at hl
    obtain ⟨σ', e1, e2, e3⟩ := hs x (by simp)
    rw [List.map_cons, compL, e1]
    dsimp only
    rw [e2]
    by_cases q : P x = true
    · have s1 : acc.length < sizeLine := line5 (by omega)
      rw [q, noX_ok, bindR_okS, if_pos rfl, e3 q, noX_ok, bindR_okS, if_pos s1, compL_filterB ds (fun y hy => hs y (by simp [hy])) _ (by simp; omega), List.filter_cons_of_pos q]
      simp
    · have q' : P x = false := by simpa using q
      rw [q', noX_ok, bindR_okS, if_neg (by simp), compL_filterB ds (fun y hy => hs y (by simp [hy])) _ (by omega), List.filter_cons_of_neg q]
theorem compL_mapB {α : Type} {enc out : α → D} {mg : MG} {mt : MT} {me : ME} {σ : AS} {h : AH} (ds : List α) (hs : ∀ x ∈ ds, ∃ σ', mg (enc x) σ h = .ok σ' h ∧ mt σ' h = .ok true h ∧ me σ' h = .ok (out x) h) (acc : List D) (hl : acc.length + ds.length ≤ 100000) :
    compL mg mt me (ds.map enc) σ acc h = .ok (acc ++ ds.map out) h := by
  have := compL_filterB (P := fun _ => true) ds (fun x hx => by obtain ⟨σ', a, b, c⟩ := hs x hx; exact ⟨σ', a, b, fun _ => c⟩) acc hl
  rwa [List.filter_eq_self.mpr (fun _ _ => rfl)] at this
theorem rgD_map (n : Nat) : rgD 0 1 n = (List.range n).map fun (i : Nat) => D.int (i : Int) := by
  unfold rgD
  refine List.map_congr_left fun i _ => ?_
  congr 1
  omega
/-! a fall is made -/
theorem put_end {f : Str} {d : D} {fs : List (Str × D)} {xs : AH} (hl : fs.length < 1000) : putI [0] f (.ref h.length) d (h ++ some (.ins 0 fs) :: xs) = some (h ++ some (.ins 0 (putFd f d fs)) :: xs) := by
  have e : (h ++ some (O.ins 0 fs) :: xs)[h.length]? = some (some (.ins 0 fs)) := by simp
  simp only [putI, e]
  rw [if_pos ⟨rfl, hl⟩]
  simp
theorem fld_nx {f : Str} {mo m : ME} {d x : D} {h1 h2 h3 : AH} (e1 : m σ h = .ok d h1) (e2 : mo σ h1 = .ok x h2) (e3 : putI [0] f x d h2 = some h3) : sFldP [0] f mo m σ h = .ok (.nx σ) h3 := by
  rw [sFldP_d, e1, ofE_ok, fldS_d, e2, ofE_ok, e3]
def g1 (P : FP) : List (Str × D) := [("first", .int P.first)]
def g2 (P : FP) : List (Str × D) := [("first", .int P.first), ("fall", .int P.drop)]
def g3 (P : FP) : List (Str × D) := [("first", .int P.first), ("fall", .int P.drop), ("seconds", .int P.secs)]
def g4 (P : FP) : List (Str × D) := [("first", .int P.first), ("fall", .int P.drop), ("seconds", .int P.secs), ("floor", .int P.floor)]
def g5 (P : FP) : List (Str × D) := [("first", .int P.first), ("fall", .int P.drop), ("seconds", .int P.secs), ("floor", .int P.floor), ("many", .int P.many)]
def g6 (P : FP) (m : Nat) : List (Str × D) := [("first", .int P.first), ("fall", .int P.drop), ("seconds", .int P.secs), ("floor", .int P.floor), ("many", .int P.many), ("takes", .ref m)]
theorem p1 : putFd "first" (.int P.first) [] = g1 P := rfl
theorem p2 : putFd "fall" (.int P.drop) (g1 P) = g2 P := rfl
theorem p3 : putFd "seconds" (.int P.secs) (g2 P) = g3 P := rfl
theorem p4 : putFd "floor" (.int P.floor) (g3 P) = g4 P := rfl
theorem p5 : putFd "many" (.int P.many) (g4 P) = g5 P := rfl
theorem p6 {m : Nat} : putFd "takes" (.ref m) (g5 P) = g6 P m := rfl
theorem p7 {m : Nat} : putFd "now" (.int 0) (g6 P m) = fsD P m 0 := rfl
theorem init_ok (g : Gd P) : f_fall_init [.ref h.length, .int P.first, .int P.drop, .int P.secs, .int P.floor, .int P.many] (h ++ [some (.ins 0 [])]) = .ok .non (h ++ [some (.ins 0 (fsD P (h.length + 1) 0)), some (.lst [])]) := by
  have a1 := g.fl
  have a2 := g.ff
  have a3 := g.d1
  have a4 := g.s1
  have a5 := g.m1
  unfold f_fall_init runF m_fall_init
  rw [show startA _ _ = [some (.ref h.length), some (.int P.first), some (.int P.drop), some (.int P.secs), some (.int P.floor), some (.int P.many)] from rfl]
  have mn : ∀ hh, bMin3 [.int P.drop, .int P.secs, .int P.many] hh = .ok (.int (if P.many < (if P.secs < P.drop then P.secs else P.drop) then P.many else if P.secs < P.drop then P.secs else P.drop)) hh := fun _ => rfl
  have ck : ¬ (if P.many < (if P.secs < P.drop then P.secs else P.drop) then P.many else if P.secs < P.drop then P.secs else P.drop) < 1 := by
    split
    · omega
    · split <;> omega
  rw [seq_nx (if_no (h1 := h ++ [some (.ins 0 [])]) (by simp [dLe_int, a1, a2, mn, dLt_int, ck]))]
  rw [seq_nx (fld_nx (d := .int P.first) (x := .ref h.length) rfl rfl (put_end (by simp))), p1]
  rw [seq_nx (fld_nx (d := .int P.drop) (x := .ref h.length) rfl rfl (put_end (by simp [g1]))), p2]
  rw [seq_nx (fld_nx (d := .int P.secs) (x := .ref h.length) rfl rfl (put_end (by simp [g2]))), p3]
  rw [seq_nx (fld_nx (d := .int P.floor) (x := .ref h.length) rfl rfl (put_end (by simp [g3]))), p4]
  rw [seq_nx (fld_nx (d := .int P.many) (x := .ref h.length) rfl rfl (put_end (by simp [g4]))), p5]
  have e6 : sFldP [0] "takes" (mVar 0) (mLst true (mNil)) [some (.ref h.length), some (.int P.first), some (.int P.drop), some (.int P.secs), some (.int P.floor), some (.int P.many)] (h ++ [some (.ins 0 (g5 P))])
      = .ok (.nx [some (.ref h.length), some (.int P.first), some (.int P.drop), some (.int P.secs), some (.int P.floor), some (.int P.many)]) (h ++ some (.ins 0 (g6 P (h.length + 1))) :: [some (.lst [])]) := by
    refine fld_nx (d := .ref (h.length + 1)) (x := .ref h.length) (h1 := h ++ some (.ins 0 (g5 P)) :: [some (.lst [])]) (h2 := h ++ some (.ins 0 (g5 P)) :: [some (.lst [])]) (by simp [line3']) rfl ?_
    rw [put_end (by simp [g5]), p6]
  rw [seq_nx e6]
  rw [fld_nx (d := .int 0) (x := .ref h.length) rfl rfl (put_end (by simp [g6])), p7]
/-- what stays known all along -/
structure En (σ : AS) (P : FP) (n : Nat) : Prop where
  hl : σ.length = 33
  v1 : σ[1]? = some (some (.ref 0))
  v2 : σ[2]? = some (some (.int P.floor))
  v3 : σ[3]? = some (some (.int P.first))
  v4 : σ[4]? = some (some (.int P.drop))
  v5 : σ[5]? = some (some (.int P.secs))
  v6 : σ[6]? = some (some (.int P.many))
  v7 : σ[7]? = some (some (.ref n))
theorem En.set (E : En σ P n) {j : Nat} {x : Option D} (hj : j ∉ [1, 2, 3, 4, 5, 6, 7]) : En (σ.set j x) P n := by
  simp only [List.mem_cons, List.not_mem_nil, or_false, not_or] at hj
  obtain ⟨a1, a2, a3, a4, a5, a6, a7⟩ := hj
  exact ⟨by rw [List.length_set, E.hl], by rw [List.getElem?_set_ne a1, E.v1], by rw [List.getElem?_set_ne a2, E.v2], by rw [List.getElem?_set_ne a3, E.v3], by rw [List.getElem?_set_ne a4, E.v4], by rw [List.getElem?_set_ne a5, E.v5], by rw [List.getElem?_set_ne a6, E.v6], by rw [List.getElem?_set_ne a7, E.v7]⟩
theorem En.wipe (E : En σ P n) {vs : List Nat} (hj : ∀ j ∈ vs, j ∉ [1, 2, 3, 4, 5, 6, 7]) : En (wipeA σ vs) P n := by
  induction vs with
  | nil => exact E
  | cons v vs ih => exact (ih fun j hj' => hj j (by simp [hj'])).set (hj v (by simp))
theorem get_set {j : Nat} {x : Option D} (hl : σ.length = 33) (hj : j < 33) : (σ.set j x)[j]? = some x := List.getElem?_set_self (by rw [hl]; exact hj)
def prD (P : FP) : D := .lst ((List.range 1200).map fun (i : Nat) => .int (Pt P (i : Int)))
theorem s123 (hl : σ.length = 33) (d : Dh h) (v1 : σ[1]? = some (some (.ref 0))) : ∃ (P : FP) (n nt : Nat) (h' : AH) (σ' : AS), Gd P ∧ Hh P h' n nt [] 0 ∧ En σ' P n ∧ σ'[8]? = some (some (.lst [])) ∧ ∀ k, sSeq lawS1 (sSeq lawS2 (sSeq lawS3 k)) σ h = k σ' h' := by
  obtain ⟨r1, h1, a1, a2, d1, e1⟩ := roll' d 40 (by omega) (by omega)
  obtain ⟨r2, h2, b1, b2, d2, e2⟩ := roll' d1 120 (by omega) (by omega)
  obtain ⟨r3, h3, c1, c2, d3, e3⟩ := roll' d2 20 (by omega) (by omega)
  obtain ⟨r4, h4, f1, f2, d4, e4⟩ := roll' d3 9 (by omega) (by omega)
  obtain ⟨r5, h5, g1, g2, d5, e5⟩ := roll' d4 9 (by omega) (by omega)
  generalize hP : (⟨1 + r1 + r2, 1 + r3, 1 + r4, 1 + r1, 1 + r5⟩ : FP) = P
  have p1 : 1 + r1 + r2 = P.first := by rw [← hP]
  have p2 : 1 + r3 = P.drop := by rw [← hP]
  have p3 : 1 + r4 = P.secs := by rw [← hP]
  have p4 : 1 + r1 = P.floor := by rw [← hP]
  have p5 : 1 + r5 = P.many := by rw [← hP]
  have g : Gd P := ⟨by omega, by omega, by omega, by omega, by omega, by omega, by omega, by omega, by omega, by omega⟩
  have i0 := init_ok (h := h5) g
  refine ⟨P, h5.length, h5.length + 1, h5 ++ [some (.ins 0 (fsD P (h5.length + 1) 0)), some (.lst [])], (((((((σ.set 2 (some (.int P.floor))).set 3 (some (.int P.first))).set 4 (some (.int P.drop))).set 5 (some (.int P.secs))).set 6 (some (.int P.many))).set 7 (some (.ref h5.length))).set 8 (some (.lst []))), g, ⟨?_, ?_⟩, ?_, ?_, fun k => ?_⟩
  · obtain ⟨a, b, m, e⟩ := d5
    exact ⟨a, b, m, by rw [List.getElem?_append_left (List.getElem?_eq_some_iff.mp e).1, e]⟩
  · refine ⟨by simp, ?_⟩
    rw [List.getElem?_append_right (by omega)]
    simp
  · refine ⟨by simpa using hl, ?_, ?_, ?_, ?_, ?_, ?_, ?_⟩ <;> simp [-getElem?_pos, List.getElem?_set, hl, v1]
  · rw [get_set (by simpa using hl) (by decide)]
  · have s1 : lawS1 σ h = .ok (.nx (σ.set 2 (some (.int P.floor)))) h1 := by
      unfold lawS1
      refine asg_nx ?_
      simp [v1, e1, dPlus_int, p4]
    have s2 : lawS2 (σ.set 2 (some (.int P.floor))) h1 = .ok (.nx ((((σ.set 2 (some (.int P.floor))).set 3 (some (.int P.first))).set 4 (some (.int P.drop))).set 5 (some (.int P.secs)) |>.set 6 (some (.int P.many)))) h5 := by
      have w1 : (σ.set 2 (some (.int P.floor)))[1]? = some (some (.ref 0)) := by rw [List.getElem?_set_ne (by decide), v1]
      have w2 : (σ.set 2 (some (.int P.floor)))[2]? = some (some (.int P.floor)) := get_set hl (by decide)
      unfold lawS2
      generalize σ.set 2 (some (.int P.floor)) = τ at *
      have tp : mTup (mCons (mOp (dPlus false) (mVar 2) (mCall (fun xs => f_law_roll (xs ++ [])) (mCons (mVar 1) (mCons (mC (.int 120)) (mNil))))) (mCons (mOp (dPlus false) (mC (.int 1)) (mCall (fun xs => f_law_roll (xs ++ [])) (mCons (mVar 1) (mCons (mC (.int 20)) (mNil))))) (mCons (mOp (dPlus false) (mC (.int 1)) (mCall (fun xs => f_law_roll (xs ++ [])) (mCons (mVar 1) (mCons (mC (.int 9)) (mNil))))) (mCons (mOp (dPlus false) (mC (.int 1)) (mCall (fun xs => f_law_roll (xs ++ [])) (mCons (mVar 1) (mCons (mC (.int 9)) (mNil))))) (mNil))))) τ h1 = .ok (.tup [.int P.first, .int P.drop, .int P.secs, .int P.many]) h5 := by
        simp [w1, w2, e2, e3, e4, e5, dPlus_int, line3', p2, p3, p5]
        omega
      rw [sAsg_d, tp]
      simp
    rw [seq_nx s1, seq_nx s2]
    have s3 : lawS3 ((((σ.set 2 (some (.int P.floor))).set 3 (some (.int P.first))).set 4 (some (.int P.drop))).set 5 (some (.int P.secs)) |>.set 6 (some (.int P.many))) h5 = .ok (.nx (((((((σ.set 2 (some (.int P.floor))).set 3 (some (.int P.first))).set 4 (some (.int P.drop))).set 5 (some (.int P.secs))).set 6 (some (.int P.many))).set 7 (some (.ref h5.length))).set 8 (some (.lst [])))) (h5 ++ [some (.ins 0 (fsD P (h5.length + 1) 0)), some (.lst [])]) := by
      have w2 : ((((σ.set 2 (some (.int P.floor))).set 3 (some (.int P.first))).set 4 (some (.int P.drop))).set 5 (some (.int P.secs)) |>.set 6 (some (.int P.many)))[2]? = some (some (.int P.floor)) := by simp [-getElem?_pos, List.getElem?_set, hl]
      have w3 : ((((σ.set 2 (some (.int P.floor))).set 3 (some (.int P.first))).set 4 (some (.int P.drop))).set 5 (some (.int P.secs)) |>.set 6 (some (.int P.many)))[3]? = some (some (.int P.first)) := by simp [-getElem?_pos, List.getElem?_set, hl]
      have w4 : ((((σ.set 2 (some (.int P.floor))).set 3 (some (.int P.first))).set 4 (some (.int P.drop))).set 5 (some (.int P.secs)) |>.set 6 (some (.int P.many)))[4]? = some (some (.int P.drop)) := by simp [-getElem?_pos, List.getElem?_set, hl]
      have w5 : ((((σ.set 2 (some (.int P.floor))).set 3 (some (.int P.first))).set 4 (some (.int P.drop))).set 5 (some (.int P.secs)) |>.set 6 (some (.int P.many)))[5]? = some (some (.int P.secs)) := by simp [-getElem?_pos, List.getElem?_set, hl]
      have w6 : ((((σ.set 2 (some (.int P.floor))).set 3 (some (.int P.first))).set 4 (some (.int P.drop))).set 5 (some (.int P.secs)) |>.set 6 (some (.int P.many)))[6]? = some (some (.int P.many)) := by simp [-getElem?_pos, List.getElem?_set, hl]
      unfold lawS3
      generalize ((((σ.set 2 (some (.int P.floor))).set 3 (some (.int P.first))).set 4 (some (.int P.drop))).set 5 (some (.int P.secs)) |>.set 6 (some (.int P.many))) = τ at *
      have mk : mMake 0 (fun xs => f_fall_init (xs ++ [])) (mCons (mVar 3) (mCons (mVar 4) (mCons (mVar 5) (mCons (mVar 2) (mCons (mVar 6) (mNil)))))) τ h5 = .ok (.ref h5.length) (h5 ++ [some (.ins 0 (fsD P (h5.length + 1) 0)), some (.lst [])]) := by
        unfold mMake initD
        simp [w2, w3, w4, w5, w6, i0]
      rw [sAsg_d, mTup_d, mCons_d, mk, bindR_okS]
      simp [line3']
    rw [seq_nx s3]
end K04
end
section
set_option Elab.async false
set_option linter.all false
set_option maxRecDepth 100000
namespace K04
open PySem DV L2 SrtO
variable {P : FP} {h : AH} {n nt : Nat} {T : List Take} {now : Int} {σ : AS} {ws : List Wish}
theorem s4 (g : Gd P) (E : En σ P n) : lawS4 σ h = .ok (.nx (σ.set 9 (some (prD P)))) h := by
  have s1 := g.s1
  have s2 := g.s2
  have d1 := g.d1
  have d2 := g.d2
  unfold lawS4
  refine asg_nx ?_
  have hz : (1200 : Int).toNat = 1200 := rfl
  have rb : rgB 1200 := ⟨by omega, by omega⟩
  rw [mLc_eq (it := itRg 0 1 1200) (ds := rgD 0 1 1200) (h1 := h) (by simp [rg1D, rb]) (itIs_rg 0 1 _) (big5 (by rw [rgD_len]; omega)), rgD_map]
  rw [compL_mapB (out := fun (i : Nat) => .int (Pt P (i : Int))) (List.range 1200) (fun i hi => ⟨(wipeA σ [24]).set 24 (some (.int (i : Int))), rfl, rfl, ?_⟩) [] (by rw [List.length_range]; decide)]
  · rfl
  · have E1 : En ((wipeA σ [24]).set 24 (some (.int (i : Int)))) P n := (E.wipe (by decide)).set (by decide)
    have t24 : ((wipeA σ [24]).set 24 (some (.int (i : Int))))[24]? = some (some (.int (i : Int))) := get_set (by simp [wipeA, E.hl]) (by decide)
    generalize (i : Int) = t at *
    generalize (wipeA σ [24]).set 24 (some (.int t)) = τ at *
    simp [t24, E1.v2, E1.v3, E1.v4, E1.v5, dDiv_int (by omega : 0 < P.secs) (by omega), dMul_int (cmul_small (by omega) (by omega) : CMul (t / P.secs) P.drop), dMinus_int, bMax2_int, Pt]
theorem ix_pr {t : Int} (h0 : 0 ≤ t) (h1 : t < 1200) (h : AH) : ixD (prD P) (.int t) h = .ok (.int (Pt P t)) h := by
  refine ix_lst2 (n := t.toNat) (by omega) ?_
  have hk : t.toNat < 1200 := by omega
  rw [List.getElem?_map, List.getElem?_eq_getElem (by rw [List.length_range]; exact hk)]
  simp only [List.getElem_range, Option.map_some]
  congr 3
  omega
def WfT (P : FP) (T : List Take) : Prop := ∀ r ∈ T, r.2.1 ∈ NM ∧ 1 ≤ r.2.2.1 ∧ r.2.2.1 ≤ 3 ∧ 0 ≤ r.1 ∧ r.1 ≤ 300 ∧ r.2.2.2 = Pt P r.1
def tkBody : MS := (sSeq (sAsg (mTup (mCons (mOp ixD (mLst false (mCons (mC (.str "a")) (mCons (mC (.str "b")) (mCons (mC (.str "c")) (mCons (mC (.str "")) (mNil)))))) (mOp (dDiv) (mCall (fun xs => f_law_roll (xs ++ [])) (mCons (mVar 1) (mCons (mC (.int 13)) (mNil)))) (mC (.int 4)))) (mCons (mCall (fun xs => f_law_roll (xs ++ [])) (mCons (mVar 1) (mCons (mC (.int 4)) (mNil)))) (mCons (mOp (dMinus) (mOp (dPlus false) (mVar 10) (mCall (fun xs => f_law_roll (xs ++ [])) (mCons (mVar 1) (mCons (mC (.int 20)) (mNil))))) (mOp (dMul false) (mCB bInt (mCons (mOp dEq (mCall (fun xs => f_law_roll (xs ++ [])) (mCons (mVar 1) (mCons (mC (.int 16)) (mNil)))) (mC (.int 0))) (mNil))) (mC (.int 20)))) (mNil))))) (gmTup 3 (gmCons (gmName 12) (gmCons (gmName 13) (gmCons (gmName 14) (gmNil)))))) (sSeq (sAsg (mOp (dMinus) (mVar 6) (mCB bSum (mCons (mLc false (miLT (mVar 8)) [30] (gmName 30) (mYes) (mOp ixD (mVar 30) (mC (.int 2)))) (mNil)))) (gmName 15)) (sSeq (sAsg (mAndV (mOp dNe (mVar 12) (mC (.str ""))) (mAndV (mChain dLe dLe (mC (.int 1)) (mVar 13) (mVar 15)) (mOp dGe (mVar 14) (mVar 10)))) (gmName 16)) (sSeq (sAsg (mOp (dPlus false) (mVar 8) (mIf (mTru (mVar 16)) (mLst false (mCons (mTup (mCons (mVar 14) (mCons (mVar 12) (mCons (mVar 13) (mCons (mOp ixD (mVar 9) (mVar 14)) (mNil)))))) (mNil))) (mLst false (mNil)))) (gmName 8)) (sSeq (sAsg (mIf (mTru (mVar 16)) (mVar 14) (mVar 10)) (gmName 10)) (sSeq (sIf (mTB (mOp dNe (mTold 1 "FallError" (mMeth 0 "take_some" (fun xs => f_fall_take_some (xs ++ [])) (mVar 7) (mCons (mVar 12) (mCons (mVar 13) (mCons (mVar 14) (mNil)))))) (mIf (mTru (mVar 16)) (mOp (dMul false) (mVar 13) (mOp ixD (mVar 9) (mVar 14))) (mC (.str "FallError"))))) (sRet (mC (.bl false))) (sNext)) (sIf (mOr (mTB (mOp dNe (mFld [0] "takes" (mVar 7)) (mVar 8))) (mTB (mOp dNe (mMeth 0 "left_now" (fun xs => f_fall_left_now (xs ++ [])) (mVar 7) mNil) (mOp (dMinus) (mVar 6) (mCB bSum (mCons (mLc false (miLT (mVar 8)) [30] (gmName 30) (mYes) (mOp ixD (mVar 30) (mC (.int 2)))) (mNil))))))) (sRet (mC (.bl false))) (sNext))))))))
/-- sum([row[k] for row in own]) -/
theorem own_lc {f : Take → Int} {e : ME} (hl : σ.length = 33) (hT : T.length ≤ 100) (v8 : σ[8]? = some (some (.lst (T.map tD)))) (he : ∀ r ∈ T, e ((wipeA σ [30]).set 30 (some (tD r))) h = .ok (.int (f r)) h) :
    mCB bSum (mCons (mLc false (miLT (mVar 8)) [30] (gmName 30) (mYes) e) (mNil)) σ h = .ok (.int (sumI (T.map f))) h := by
  have lc : mLc false (miLT (mVar 8)) [30] (gmName 30) (mYes) e σ h = .ok (.lst ((T.map f).map D.int)) h := by
    rw [mLc_eq (it := itOf (.lst (T.map tD))) (ds := T.map tD) (h1 := h) (by simp [v8, itLT, getL]) (itIs_lst _) (big3 (by simp; omega))]
    rw [compL_map (out := fun r => .int (f r)) T (fun r hr => ⟨(wipeA σ [30]).set 30 (some (tD r)), rfl, rfl, he r hr⟩) [] (by simp; omega)]
    simp
  rw [mCB_d, mCons_d, lc, bindR_okS, mNil_d, bindR_okS, bindR_okS, bSum_lst]
theorem own_two (hl : σ.length = 33) (hT : T.length ≤ 100) (v8 : σ[8]? = some (some (.lst (T.map tD)))) : mCB bSum (mCons (mLc false (miLT (mVar 8)) [30] (gmName 30) (mYes) (mOp ixD (mVar 30) (mC (.int 2)))) (mNil)) σ h = .ok (.int (sumI (T.map fun r => r.2.2.1))) h :=
  own_lc hl hT v8 fun r hr => by
    have t30 : ((wipeA σ [30]).set 30 (some (tD r)))[30]? = some (some (tD r)) := get_set (by simp [wipeA, hl]) (by decide)
    simp only [mOp_d, mVar_d, t30, bindR_okS, mC_d, ix_t2]
theorem eqv_take (r : Take) : PyData.eqv (.tuple [.int r.1, .str r.2.1, .int r.2.2.1, .int r.2.2.2]) (.tuple [.int r.1, .str r.2.1, .int r.2.2.1, .int r.2.2.2]) = true := by
  simp [PyData.eqv, PyData.eqvAll]
theorem toP_take {r : Take} (ho : PyData.strOk r.2.1 = true) (h : AH) : toP 19 h (tD r) = some (.tuple [.int r.1, .str r.2.1, .int r.2.2.1, .int r.2.2.2]) := by
  simp [tD, toP, allS, ho]
theorem dNe_takes (ho : ∀ r ∈ T, PyData.strOk r.2.1 = true) (h : AH) : dNe (.lst (T.map tD)) (.lst (T.map tD)) h = .ok (.bl false) h :=
  dNe_lst_same (fun r hr => toP_take (ho r hr) h) fun r hr => eqv_take r
theorem dNe_ref (e : h[nt]? = some (some (.lst (T.map tD)))) (ho : ∀ r ∈ T, PyData.strOk r.2.1 = true) : dNe (.ref nt) (.lst (T.map tD)) h = .ok (.bl false) h := by
  have := dNe_takes ho h
  unfold dNe dEqB at this ⊢
  rw [show toP 20 h (.ref nt) = toP 20 h (.lst (T.map tD)) by simp only [toP, getL, e]]
  exact this
theorem WfT.ok (w : WfT P T) : ∀ r ∈ T, PyData.strOk r.2.1 = true := fun r hr => nm_ok (w r hr).1
theorem tk_step (g : Gd P) (E : En σ P n) (H : Hh P h n nt T now) (hT : T.length ≤ 50) (w : WfT P T) (h0 : 0 ≤ now) (hb : now ≤ 250) (v8 : σ[8]? = some (some (.lst (T.map tD)))) (v9 : σ[9]? = some (some (prD P))) (v10 : σ[10]? = some (some (.int now))) :
    ∃ T' now' σ' h', En σ' P n ∧ Hh P h' n nt T' now' ∧ T'.length ≤ T.length + 1 ∧ WfT P T' ∧ 0 ≤ now' ∧ now' ≤ now + 19 ∧ σ'[8]? = some (some (.lst (T'.map tD))) ∧ σ'[9]? = some (some (prD P)) ∧ σ'[10]? = some (some (.int now')) ∧ tkBody σ h = .ok (.nx σ') h' := by
  obtain ⟨k, h1, a1, a2, H1, e1⟩ := H.roll 13 (by omega) (by omega)
  obtain ⟨m, h2, b1, b2, H2, e2⟩ := H1.roll 4 (by omega) (by omega)
  obtain ⟨u, h3, c1, c2, H3, e3⟩ := H2.roll 20 (by omega) (by omega)
  obtain ⟨z, h4, f1, f2, H4, e4⟩ := H3.roll 16 (by omega) (by omega)
  obtain ⟨who, hwho, hok, ix⟩ : ∃ who : Str, (who = "" ∨ who ∈ NM) ∧ PyData.strOk who = true ∧ ∀ h : AH, ixD (.lst [.str "a", .str "b", .str "c", .str ""]) (.int (k / 4)) h = .ok (.str who) h := by
    have : k / 4 = 0 ∨ k / 4 = 1 ∨ k / 4 = 2 ∨ k / 4 = 3 := by omega
    rcases this with q | q | q | q <;> rw [q]
    · exact ⟨"a", .inr (by simp [NM]), by decide +kernel, fun h => ix_lst2 (n := 0) rfl rfl⟩
    · exact ⟨"b", .inr (by simp [NM]), by decide +kernel, fun h => ix_lst2 (n := 1) rfl rfl⟩
    · exact ⟨"c", .inr (by simp [NM]), by decide +kernel, fun h => ix_lst2 (n := 2) rfl rfl⟩
    · exact ⟨"", .inl rfl, by decide +kernel, fun h => ix_lst2 (n := 3) rfl rfl⟩
  obtain ⟨wh, hwh, hw1, hw2⟩ : ∃ wh : Int, wh = now + u - (if z = 0 then 1 else 0) * 20 ∧ wh ≤ now + 19 ∧ (now ≤ wh → 0 ≤ wh) := ⟨_, rfl, by split <;> omega, fun _ => by omega⟩
  unfold tkBody
  -- who, some, when
  have st1 : sAsg (mTup (mCons (mOp ixD (mLst false (mCons (mC (.str "a")) (mCons (mC (.str "b")) (mCons (mC (.str "c")) (mCons (mC (.str "")) (mNil)))))) (mOp (dDiv) (mCall (fun xs => f_law_roll (xs ++ [])) (mCons (mVar 1) (mCons (mC (.int 13)) (mNil)))) (mC (.int 4)))) (mCons (mCall (fun xs => f_law_roll (xs ++ [])) (mCons (mVar 1) (mCons (mC (.int 4)) (mNil)))) (mCons (mOp (dMinus) (mOp (dPlus false) (mVar 10) (mCall (fun xs => f_law_roll (xs ++ [])) (mCons (mVar 1) (mCons (mC (.int 20)) (mNil))))) (mOp (dMul false) (mCB bInt (mCons (mOp dEq (mCall (fun xs => f_law_roll (xs ++ [])) (mCons (mVar 1) (mCons (mC (.int 16)) (mNil)))) (mC (.int 0))) (mNil))) (mC (.int 20)))) (mNil))))) (gmTup 3 (gmCons (gmName 12) (gmCons (gmName 13) (gmCons (gmName 14) (gmNil))))) σ h = .ok (.nx (((σ.set 12 (some (.str who))).set 13 (some (.int m))).set 14 (some (.int wh)))) h4 := by
    have bi : bInt [.bl (decide (z = 0))] h4 = .ok (.int (if z = 0 then 1 else 0)) h4 := by
      by_cases q : z = 0 <;> simp [bInt, q]
    have cm : CMul (if z = 0 then 1 else 0) 20 := cmul_small (by decide) (by decide)
    have tp : mTup (mCons (mOp ixD (mLst false (mCons (mC (.str "a")) (mCons (mC (.str "b")) (mCons (mC (.str "c")) (mCons (mC (.str "")) (mNil)))))) (mOp (dDiv) (mCall (fun xs => f_law_roll (xs ++ [])) (mCons (mVar 1) (mCons (mC (.int 13)) (mNil)))) (mC (.int 4)))) (mCons (mCall (fun xs => f_law_roll (xs ++ [])) (mCons (mVar 1) (mCons (mC (.int 4)) (mNil)))) (mCons (mOp (dMinus) (mOp (dPlus false) (mVar 10) (mCall (fun xs => f_law_roll (xs ++ [])) (mCons (mVar 1) (mCons (mC (.int 20)) (mNil))))) (mOp (dMul false) (mCB bInt (mCons (mOp dEq (mCall (fun xs => f_law_roll (xs ++ [])) (mCons (mVar 1) (mCons (mC (.int 16)) (mNil)))) (mC (.int 0))) (mNil))) (mC (.int 20)))) (mNil)))) σ h = .ok (.tup [.str who, .int m, .int wh]) h4 := by
      generalize (if z = 0 then (1 : Int) else 0) = zz at *
      simp [E.v1, e1, e2, e3, e4, v10, ix, dDiv_int (by decide : (0 : Int) < 4) (by decide), dEq_int, dPlus_int, dMinus_int, bi, dMul_int cm, line3', hwh]
    rw [sAsg_d, tp]
    simp
  rw [seq_nx st1]
  have E1 : En (((σ.set 12 (some (.str who))).set 13 (some (.int m))).set 14 (some (.int wh))) P n := ((E.set (by decide)).set (by decide)).set (by decide)
  have w8 : (((σ.set 12 (some (.str who))).set 13 (some (.int m))).set 14 (some (.int wh)))[8]? = some (some (.lst (T.map tD))) := by rw [List.getElem?_set_ne (by decide), List.getElem?_set_ne (by decide), List.getElem?_set_ne (by decide), v8]
  have w9 : (((σ.set 12 (some (.str who))).set 13 (some (.int m))).set 14 (some (.int wh)))[9]? = some (some (prD P)) := by rw [List.getElem?_set_ne (by decide), List.getElem?_set_ne (by decide), List.getElem?_set_ne (by decide), v9]
  have w10 : (((σ.set 12 (some (.str who))).set 13 (some (.int m))).set 14 (some (.int wh)))[10]? = some (some (.int now)) := by rw [List.getElem?_set_ne (by decide), List.getElem?_set_ne (by decide), List.getElem?_set_ne (by decide), v10]
  have w12 : (((σ.set 12 (some (.str who))).set 13 (some (.int m))).set 14 (some (.int wh)))[12]? = some (some (.str who)) := by rw [List.getElem?_set_ne (by decide), List.getElem?_set_ne (by decide), get_set E.hl (by decide)]
  have w13 : (((σ.set 12 (some (.str who))).set 13 (some (.int m))).set 14 (some (.int wh)))[13]? = some (some (.int m)) := by rw [List.getElem?_set_ne (by decide), get_set (by simp [E.hl]) (by decide)]
  have w14 : (((σ.set 12 (some (.str who))).set 13 (some (.int m))).set 14 (some (.int wh)))[14]? = some (some (.int wh)) := get_set (by simp [E.hl]) (by decide)
  generalize ((σ.set 12 (some (.str who))).set 13 (some (.int m))).set 14 (some (.int wh)) = τ at *
  clear st1 e1 e2 e3 e4 v8 v9 v10 E
  -- left
  have o2 := own_two (h := h4) E1.hl (by omega) w8
  rw [seq_nx (asg_nx (d := .int (leftV P T)) (h1 := h4) (by rw [mOp_d, mVar_d, E1.v6]; dsimp only; rw [bindR_okS, o2, bindR_okS, dMinus_int]; rfl))]
  have E2 : En (τ.set 15 (some (.int (leftV P T)))) P n := E1.set (by decide)
  have x8 : (τ.set 15 (some (.int (leftV P T))))[8]? = some (some (.lst (T.map tD))) := by rw [List.getElem?_set_ne (by decide), w8]
  have x9 : (τ.set 15 (some (.int (leftV P T))))[9]? = some (some (prD P)) := by rw [List.getElem?_set_ne (by decide), w9]
  have x10 : (τ.set 15 (some (.int (leftV P T))))[10]? = some (some (.int now)) := by rw [List.getElem?_set_ne (by decide), w10]
  have x12 : (τ.set 15 (some (.int (leftV P T))))[12]? = some (some (.str who)) := by rw [List.getElem?_set_ne (by decide), w12]
  have x13 : (τ.set 15 (some (.int (leftV P T))))[13]? = some (some (.int m)) := by rw [List.getElem?_set_ne (by decide), w13]
  have x14 : (τ.set 15 (some (.int (leftV P T))))[14]? = some (some (.int wh)) := by rw [List.getElem?_set_ne (by decide), w14]
  have x15 : (τ.set 15 (some (.int (leftV P T))))[15]? = some (some (.int (leftV P T))) := get_set E1.hl (by decide)
  generalize τ.set 15 (some (.int (leftV P T))) = ω at *
  clear w8 w9 w10 w12 w13 w14 E1 o2
  -- good
  have e0 : PyData.strOk "" = true := by decide +kernel
  have gd : mAndV (mOp dNe (mVar 12) (mC (.str ""))) (mAndV (mChain dLe dLe (mC (.int 1)) (mVar 13) (mVar 15)) (mOp dGe (mVar 14) (mVar 10))) ω h4 = .ok (.bl (goodT P T now who m wh)) h4 := by
    have dn := dNe_str hok e0 h4
    unfold mAndV goodT
    by_cases q1 : who = ""
    · subst q1; simp [x12, dn]
    · by_cases q2 : 1 ≤ m
      · by_cases q3 : m ≤ leftV P T
        · simp [x12, x13, x15, x14, x10, dn, q1, dLe_int, q2, q3, dGe_int]
        · simp [x12, x13, x15, x14, x10, dn, q1, dLe_int, q2, q3, dGe_int]
      · simp [x12, x13, x15, x14, x10, dn, q1, dLe_int, q2, dGe_int]
  rw [seq_nx (asg_nx gd)]
  have E3 : En (ω.set 16 (some (.bl (goodT P T now who m wh)))) P n := E2.set (by decide)
  have y8 : (ω.set 16 (some (.bl (goodT P T now who m wh))))[8]? = some (some (.lst (T.map tD))) := by rw [List.getElem?_set_ne (by decide), x8]
  have y9 : (ω.set 16 (some (.bl (goodT P T now who m wh))))[9]? = some (some (prD P)) := by rw [List.getElem?_set_ne (by decide), x9]
  have y10 : (ω.set 16 (some (.bl (goodT P T now who m wh))))[10]? = some (some (.int now)) := by rw [List.getElem?_set_ne (by decide), x10]
  have y12 : (ω.set 16 (some (.bl (goodT P T now who m wh))))[12]? = some (some (.str who)) := by rw [List.getElem?_set_ne (by decide), x12]
  have y13 : (ω.set 16 (some (.bl (goodT P T now who m wh))))[13]? = some (some (.int m)) := by rw [List.getElem?_set_ne (by decide), x13]
  have y14 : (ω.set 16 (some (.bl (goodT P T now who m wh))))[14]? = some (some (.int wh)) := by rw [List.getElem?_set_ne (by decide), x14]
  have y16 : (ω.set 16 (some (.bl (goodT P T now who m wh))))[16]? = some (some (.bl (goodT P T now who m wh))) := get_set E2.hl (by decide)
  generalize ω.set 16 (some (.bl (goodT P T now who m wh))) = ρ at *
  clear x8 x9 x10 x12 x13 x14 x15 E2 gd
  have tkn := take_ok g H4.fo (by omega) h0 hok m wh (by omega)
  have fe : PyData.strOk "FallError" = true := by decide +kernel
  cases hg : goodT P T now who m wh with
  | true =>
    rw [hg] at y16 tkn
    rw [if_pos rfl] at tkn
    have hg' := hg
    unfold goodT at hg'
    simp only [Bool.and_eq_true, decide_eq_true_iff, Bool.not_eq_true', decide_eq_false_iff_not] at hg'
    obtain ⟨u1, ⟨u2, u3⟩, u4⟩ := hg'
    have wh0 := hw2 u4
    have ip := ix_pr (P := P) wh0 (by omega : wh < 1200)
    have hwm : who ∈ NM := hwho.resolve_left u1
    generalize hT' : T ++ [(wh, who, m, Pt P wh)] = T' at *
    have lT : T'.length = T.length + 1 := by rw [← hT']; simp
    have wT : WfT P T' := fun r hr => by
      rw [← hT'] at hr
      rcases List.mem_append.mp hr with hr | hr
      · exact w r hr
      · simp at hr; subst hr
        exact ⟨hwm, u2, by dsimp only; omega, wh0, by dsimp only; omega, rfl⟩
    have st4 : mOp (dPlus false) (mVar 8) (mIf (mTru (mVar 16)) (mLst false (mCons (mTup (mCons (mVar 14) (mCons (mVar 12) (mCons (mVar 13) (mCons (mOp ixD (mVar 9) (mVar 14)) (mNil)))))) (mNil))) (mLst false (mNil))) ρ h4 = .ok (.lst (T'.map tD)) h4 := by
      have i1 : mIf (mTru (mVar 16)) (mLst false (mCons (mTup (mCons (mVar 14) (mCons (mVar 12) (mCons (mVar 13) (mCons (mOp ixD (mVar 9) (mVar 14)) (mNil)))))) (mNil))) (mLst false (mNil)) ρ h4 = .ok (.lst [tD (wh, who, m, Pt P wh)]) h4 := by
        simp [y16, y14, y12, y13, y9, ip, line3', tD]
      have s1 : T.length + 1 ≤ sizeLine := line3' (by omega)
      rw [mOp_d, mVar_d, y8]
      dsimp only
      rw [bindR_okS, i1, bindR_okS, ← hT']
      simp [dPlus, dCat, getLs, s1]
    rw [seq_nx (asg_nx st4)]
    have E4 : En ((ρ.set 8 (some (.lst (T'.map tD)))).set 10 (some (.int wh))) P n := (E3.set (by decide)).set (by decide)
    have z8 : ((ρ.set 8 (some (.lst (T'.map tD)))).set 10 (some (.int wh)))[8]? = some (some (.lst (T'.map tD))) := by rw [List.getElem?_set_ne (by decide), get_set E3.hl (by decide)]
    have z9 : ((ρ.set 8 (some (.lst (T'.map tD)))).set 10 (some (.int wh)))[9]? = some (some (prD P)) := by rw [List.getElem?_set_ne (by decide), List.getElem?_set_ne (by decide), y9]
    have z10 : ((ρ.set 8 (some (.lst (T'.map tD)))).set 10 (some (.int wh)))[10]? = some (some (.int wh)) := get_set (by simp [E3.hl]) (by decide)
    have z12 : ((ρ.set 8 (some (.lst (T'.map tD)))).set 10 (some (.int wh)))[12]? = some (some (.str who)) := by rw [List.getElem?_set_ne (by decide), List.getElem?_set_ne (by decide), y12]
    have z13 : ((ρ.set 8 (some (.lst (T'.map tD)))).set 10 (some (.int wh)))[13]? = some (some (.int m)) := by rw [List.getElem?_set_ne (by decide), List.getElem?_set_ne (by decide), y13]
    have z14 : ((ρ.set 8 (some (.lst (T'.map tD)))).set 10 (some (.int wh)))[14]? = some (some (.int wh)) := by rw [List.getElem?_set_ne (by decide), List.getElem?_set_ne (by decide), y14]
    have z16 : ((ρ.set 8 (some (.lst (T'.map tD)))).set 10 (some (.int wh)))[16]? = some (some (.bl true)) := by rw [List.getElem?_set_ne (by decide), List.getElem?_set_ne (by decide), y16]
    have q14 : (ρ.set 8 (some (.lst (T'.map tD))))[14]? = some (some (.int wh)) := by rw [List.getElem?_set_ne (by decide), y14]
    have q16 : (ρ.set 8 (some (.lst (T'.map tD))))[16]? = some (some (.bl true)) := by rw [List.getElem?_set_ne (by decide), y16]
    rw [seq_nx (asg_nx (d := .int wh) (h1 := h4) (by simp [q16, q14]))]
    generalize (ρ.set 8 (some (.lst (T'.map tD)))).set 10 (some (.int wh)) = ν at *
    -- the heap behind
    have o3 := H4.fo.put2 wh
    have o4 := o3.addT (wh, who, m, Pt P wh)
    have H5 : Hh P (takeH P h4 n nt T who m wh) n nt T' wh := by
      refine ⟨?_, by rw [← hT']; exact o4⟩
      obtain ⟨a, b, m', e⟩ := H4.dh
      unfold takeH
      exact ⟨a, b, m', by rw [List.getElem?_set_ne H4.nt0, List.getElem?_set_ne H4.n0, e]⟩
    refine ⟨T', wh, ν, takeH P h4 n nt T who m wh, E4, H5, by omega, wT, wh0, hw1, z8, z9, z10, ?_⟩
    generalize takeH P h4 n nt T who m wh = h5 at *
    have ck1 : mTB (mOp dNe (mTold 1 "FallError" (mMeth 0 "take_some" (fun xs => f_fall_take_some (xs ++ [])) (mVar 7) (mCons (mVar 12) (mCons (mVar 13) (mCons (mVar 14) (mNil)))))) (mIf (mTru (mVar 16)) (mOp (dMul false) (mVar 13) (mOp ixD (mVar 9) (mVar 14))) (mC (.str "FallError")))) ν h4 = .ok false h5 := by
      have m1 : mMeth 0 "take_some" (fun xs => f_fall_take_some (xs ++ [])) (mVar 7) (mCons (mVar 12) (mCons (mVar 13) (mCons (mVar 14) (mNil)))) ν h4 = .ok (.int (m * Pt P wh)) h5 := by
        rw [mMeth_d2 (x := .ref n) (xs := [.str who, .int m, .int wh]) (h1 := h4) (h2 := h4) (by simp [E4.v7]) (H4.fo.rcv rc5) (by simp [z12, z13, z14])]
        exact tkn
      have t1 : mTold 1 "FallError" (mMeth 0 "take_some" (fun xs => f_fall_take_some (xs ++ [])) (mVar 7) (mCons (mVar 12) (mCons (mVar 13) (mCons (mVar 14) (mNil))))) ν h4 = .ok (.int (m * Pt P wh)) h5 := by
        unfold mTold
        rw [m1]
      rw [mTB_d, mOp_d, t1, bindR_okS]
      simp [z16, z13, z9, z14, ip, dMul_int (cmul_left (by omega) (by omega) : CMul m (Pt P wh)), dNe_int]
    rw [seq_nx (if_no ck1)]
    have ck2 : mTB (mOp dNe (mFld [0] "takes" (mVar 7)) (mVar 8)) ν h5 = .ok false h5 := by
      have dr := dNe_ref H5.fo.tk wT.ok
      simp [E4.v7, H5.fo.takes, z8, dr]
    have ck3 : mTB (mOp dNe (mMeth 0 "left_now" (fun xs => f_fall_left_now (xs ++ [])) (mVar 7) mNil) (mOp (dMinus) (mVar 6) (mCB bSum (mCons (mLc false (miLT (mVar 8)) [30] (gmName 30) (mYes) (mOp ixD (mVar 30) (mC (.int 2)))) (mNil))))) ν h5 = .ok false h5 := by
      have m1 : mMeth 0 "left_now" (fun xs => f_fall_left_now (xs ++ [])) (mVar 7) mNil ν h5 = .ok (.int (leftV P T')) h5 := by
        rw [mMeth_d2 (x := .ref n) (xs := []) (h1 := h5) (h2 := h5) (by simp [E4.v7]) (H5.fo.rcv rc4) rfl]
        exact left_now_ok H5.fo (by omega)
      have o5 := own_two (h := h5) E4.hl (by omega) z8
      rw [mTB_d, mOp_d, m1, bindR_okS, mOp_d, mVar_d, E4.v6]
      dsimp only
      rw [bindR_okS, o5, bindR_okS, dMinus_int, bindR_okS, dNe_int]
      simp [leftV]
    exact if_no (by rw [mOr_d, ck2, bindR_okS, if_neg (by simp), ck3])
  | false =>
    rw [hg] at y16 tkn
    rw [if_neg (by simp)] at tkn
    have st4 : mOp (dPlus false) (mVar 8) (mIf (mTru (mVar 16)) (mLst false (mCons (mTup (mCons (mVar 14) (mCons (mVar 12) (mCons (mVar 13) (mCons (mOp ixD (mVar 9) (mVar 14)) (mNil)))))) (mNil))) (mLst false (mNil))) ρ h4 = .ok (.lst (T.map tD)) h4 := by
      have s1 : T.length + 0 ≤ sizeLine := line3' (by omega)
      have s2 : T.length ≤ sizeLine := s1
      simp [y8, y16, line3', dPlus, dCat, getLs, s2]
    rw [seq_nx (asg_nx st4)]
    have E4 : En ((ρ.set 8 (some (.lst (T.map tD)))).set 10 (some (.int now))) P n := (E3.set (by decide)).set (by decide)
    have z8 : ((ρ.set 8 (some (.lst (T.map tD)))).set 10 (some (.int now)))[8]? = some (some (.lst (T.map tD))) := by rw [List.getElem?_set_ne (by decide), get_set E3.hl (by decide)]
    have z9 : ((ρ.set 8 (some (.lst (T.map tD)))).set 10 (some (.int now)))[9]? = some (some (prD P)) := by rw [List.getElem?_set_ne (by decide), List.getElem?_set_ne (by decide), y9]
    have z10 : ((ρ.set 8 (some (.lst (T.map tD)))).set 10 (some (.int now)))[10]? = some (some (.int now)) := get_set (by simp [E3.hl]) (by decide)
    have z12 : ((ρ.set 8 (some (.lst (T.map tD)))).set 10 (some (.int now)))[12]? = some (some (.str who)) := by rw [List.getElem?_set_ne (by decide), List.getElem?_set_ne (by decide), y12]
    have z13 : ((ρ.set 8 (some (.lst (T.map tD)))).set 10 (some (.int now)))[13]? = some (some (.int m)) := by rw [List.getElem?_set_ne (by decide), List.getElem?_set_ne (by decide), y13]
    have z14 : ((ρ.set 8 (some (.lst (T.map tD)))).set 10 (some (.int now)))[14]? = some (some (.int wh)) := by rw [List.getElem?_set_ne (by decide), List.getElem?_set_ne (by decide), y14]
    have z16 : ((ρ.set 8 (some (.lst (T.map tD)))).set 10 (some (.int now)))[16]? = some (some (.bl false)) := by rw [List.getElem?_set_ne (by decide), List.getElem?_set_ne (by decide), y16]
    have q10 : (ρ.set 8 (some (.lst (T.map tD))))[10]? = some (some (.int now)) := by rw [List.getElem?_set_ne (by decide), y10]
    have q16 : (ρ.set 8 (some (.lst (T.map tD))))[16]? = some (some (.bl false)) := by rw [List.getElem?_set_ne (by decide), y16]
    rw [seq_nx (asg_nx (d := .int now) (h1 := h4) (by simp [q16, q10]))]
    generalize (ρ.set 8 (some (.lst (T.map tD)))).set 10 (some (.int now)) = ν at *
    refine ⟨T, now, ν, h4, E4, H4, by omega, w, h0, by omega, z8, z9, z10, ?_⟩
    have ck1 : mTB (mOp dNe (mTold 1 "FallError" (mMeth 0 "take_some" (fun xs => f_fall_take_some (xs ++ [])) (mVar 7) (mCons (mVar 12) (mCons (mVar 13) (mCons (mVar 14) (mNil)))))) (mIf (mTru (mVar 16)) (mOp (dMul false) (mVar 13) (mOp ixD (mVar 9) (mVar 14))) (mC (.str "FallError")))) ν h4 = .ok false h4 := by
      have m1 : mMeth 0 "take_some" (fun xs => f_fall_take_some (xs ++ [])) (mVar 7) (mCons (mVar 12) (mCons (mVar 13) (mCons (mVar 14) (mNil)))) ν h4 = .exc 1 h4 := by
        rw [mMeth_d2 (x := .ref n) (xs := [.str who, .int m, .int wh]) (h1 := h4) (h2 := h4) (by simp [E4.v7]) (H4.fo.rcv rc5) (by simp [z12, z13, z14])]
        exact tkn
      have t1 : mTold 1 "FallError" (mMeth 0 "take_some" (fun xs => f_fall_take_some (xs ++ [])) (mVar 7) (mCons (mVar 12) (mCons (mVar 13) (mCons (mVar 14) (mNil))))) ν h4 = .ok (.str "FallError") h4 := by
        unfold mTold
        rw [m1]
        rfl
      have dn := dNe_str fe fe h4
      rw [mTB_d, mOp_d, t1, bindR_okS]
      simp [z16, dn]
    rw [seq_nx (if_no ck1)]
    have ck2 : mTB (mOp dNe (mFld [0] "takes" (mVar 7)) (mVar 8)) ν h4 = .ok false h4 := by
      have dr := dNe_ref H4.fo.tk w.ok
      simp [E4.v7, H4.fo.takes, z8, dr]
    have ck3 : mTB (mOp dNe (mMeth 0 "left_now" (fun xs => f_fall_left_now (xs ++ [])) (mVar 7) mNil) (mOp (dMinus) (mVar 6) (mCB bSum (mCons (mLc false (miLT (mVar 8)) [30] (gmName 30) (mYes) (mOp ixD (mVar 30) (mC (.int 2)))) (mNil))))) ν h4 = .ok false h4 := by
      have m1 : mMeth 0 "left_now" (fun xs => f_fall_left_now (xs ++ [])) (mVar 7) mNil ν h4 = .ok (.int (leftV P T)) h4 := by
        rw [mMeth_d2 (x := .ref n) (xs := []) (h1 := h4) (h2 := h4) (by simp [E4.v7]) (H4.fo.rcv rc4) rfl]
        exact left_now_ok H4.fo (by omega)
      have o5 := own_two (h := h4) E4.hl (by omega) z8
      rw [mTB_d, mOp_d, m1, bindR_okS, mOp_d, mVar_d, E4.v6]
      dsimp only
      rw [bindR_okS, o5, bindR_okS, dMinus_int, bindR_okS, dNe_int]
      simp [leftV]
    exact if_no (by rw [mOr_d, ck2, bindR_okS, if_neg (by simp), ck3])
theorem tk_loop (g : Gd P) : ∀ (ds : List D) (σ : AS) (h : AH) (T : List Take) (now : Int), En σ P n → Hh P h n nt T now → T.length + ds.length ≤ 20 → WfT P T → 0 ≤ now → now + 19 * ds.length ≤ 250 → σ[8]? = some (some (.lst (T.map tD))) → σ[9]? = some (some (prD P)) → σ[10]? = some (some (.int now)) →
    ∃ T' now' σ' h', En σ' P n ∧ Hh P h' n nt T' now' ∧ T'.length ≤ 20 ∧ WfT P T' ∧ 0 ≤ now' ∧ σ'[8]? = some (some (.lst (T'.map tD))) ∧ σ'[9]? = some (some (prD P)) ∧ forL (gmName 11) tkBody ds σ h = .ok (.nx σ') h'
  | [], σ, h, T, now, E, H, hl, w, h0, hb, v8, v9, v10 => ⟨T, now, σ, h, E, H, by simpa using hl, w, h0, v8, v9, rfl⟩
  | d :: ds, σ, h, T, now, E, H, hl, w, h0, hb, v8, v9, v10 => by
    simp only [List.length_cons] at hl hb
    obtain ⟨T1, now1, σ1, h1, E1, H1, l1, w1, n0, nb, a8, a9, a10, e1⟩ := tk_step (σ := σ.set 11 (some d)) g (E.set (by decide)) H (by omega) w h0 (by omega) (by rw [List.getElem?_set_ne (by decide), v8]) (by rw [List.getElem?_set_ne (by decide), v9]) (by rw [List.getElem?_set_ne (by decide), v10])
    obtain ⟨T2, now2, σ2, h2, E2, H2, l2, w2, n2, b8, b9, e2⟩ := tk_loop g ds σ1 h1 T1 now1 E1 H1 (by omega) w1 n0 (by omega) a8 a9 a10
    refine ⟨T2, now2, σ2, h2, E2, H2, l2, w2, n2, b8, b9, ?_⟩
    rw [forL, gmName_d]
    dsimp only
    rw [e1, loopS_nx, e2]
theorem s6 (g : Gd P) (E : En σ P n) (H : Hh P h n nt [] 0) (v8 : σ[8]? = some (some (.lst []))) (v9 : σ[9]? = some (some (prD P))) (v10 : σ[10]? = some (some (.int 0))) :
    ∃ T' now' σ' h', En σ' P n ∧ Hh P h' n nt T' now' ∧ T'.length ≤ 20 ∧ WfT P T' ∧ 0 ≤ now' ∧ σ'[8]? = some (some (.lst (T'.map tD))) ∧ σ'[9]? = some (some (prD P)) ∧ lawS6 σ h = .ok (.nx σ') h' := by
  obtain ⟨k, h1, a1, a2, H1, e1⟩ := H.roll 12 (by omega) (by omega)
  obtain ⟨T2, now2, σ2, h2, E2, H2, l2, w2, n2, b8, b9, e2⟩ := tk_loop g (rgD 0 1 k.toNat) σ h1 [] 0 E H1 (by rw [rgD_len]; simp; omega) (fun r hr => by simp at hr) (Int.le_refl _) (by rw [rgD_len]; omega) v8 v9 v10
  refine ⟨T2, now2, σ2, h2, E2, H2, l2, w2, n2, b8, b9, ?_⟩
  have rb : rgB k := ⟨by omega, by omega⟩
  have lp := sFor_eq (mi := miCall rg1D (mCons (mCall (fun xs => f_law_roll (xs ++ [])) (mCons (mVar 1) (mCons (mC (.int 12)) (mNil)))) (mNil))) (mg := gmName 11) (s := tkBody) (σ := σ) (h := h) (h1 := h1) (it := itRg 0 1 k.toNat) (ds := rgD 0 1 k.toNat) (by simp [E.v1, e1, rg1D, rb]) (itIs_rg 0 1 _) (big3 (by rw [rgD_len]; omega))
  rw [e2] at lp
  exact lp
end K04
end
section
set_option Elab.async false
set_option linter.all false
set_option maxRecDepth 100000
namespace K04
open PySem DV L2 SrtO
variable {P : FP} {h : AH} {n nt : Nat} {T : List Take} {now : Int} {σ : AS} {ws : List Wish}
/-- the seconds at which the price is no more -/
def ableN (P : FP) (p : Int) : List Nat := (List.range 1200).filter fun (i : Nat) => decide (Pt P (i : Int) ≤ p)
def ableD (P : FP) (p : Int) : D := .lst ((ableN P p).map fun (i : Nat) => .int (i : Int))
theorem able_lc {mt : MT} {p : Int} (hmt : ∀ i : Nat, i < 1200 → mt ((wipeA σ [24]).set 24 (some (.int (i : Int)))) h = .ok (decide (Pt P (i : Int) ≤ p)) h) (hl : σ.length = 33) :
    mLc false (miCall rg1D (mCons (mC (.int 1200)) (mNil))) [24] (gmName 24) mt (mVar 24) σ h = .ok (ableD P p) h := by
  have rb : rgB 1200 := ⟨by omega, by omega⟩
  rw [mLc_eq (it := itRg 0 1 1200) (ds := rgD 0 1 1200) (h1 := h) (by simp [rg1D, rb]) (itIs_rg 0 1 _) (big5 (by rw [rgD_len]; omega)), rgD_map]
  rw [compL_filterB (P := fun (i : Nat) => decide (Pt P (i : Int) ≤ p)) (out := fun (i : Nat) => .int (i : Int)) (List.range 1200) (fun i hi => ⟨(wipeA σ [24]).set 24 (some (.int (i : Int))), rfl, hmt i (List.mem_range.mp hi), fun _ => ?_⟩) [] (by rw [List.length_range]; decide)]
  · rfl
  · have t24 : ((wipeA σ [24]).set 24 (some (.int (i : Int))))[24]? = some (some (.int (i : Int))) := get_set (by simp [wipeA, hl]) (by decide)
    simp only [mVar_d, t24]
theorem s8 {p : Int} (E : En σ P n) (v9 : σ[9]? = some (some (prD P))) (v17 : σ[17]? = some (some (.int p))) : lawS8 σ h = .ok (.nx (σ.set 18 (some (ableD P p)))) h := by
  unfold lawS8
  refine asg_nx (able_lc (fun i hi => ?_) E.hl)
  have t24 : ((wipeA σ [24]).set 24 (some (.int (i : Int))))[24]? = some (some (.int (i : Int))) := get_set (by simp [wipeA, E.hl]) (by decide)
  have t9 : ((wipeA σ [24]).set 24 (some (.int (i : Int))))[9]? = some (some (prD P)) := by rw [List.getElem?_set_ne (by decide), wipe_ne (by decide), v9]
  have t17 : ((wipeA σ [24]).set 24 (some (.int (i : Int))))[17]? = some (some (.int p)) := by rw [List.getElem?_set_ne (by decide), wipe_ne (by decide), v17]
  have ip := ix_pr (P := P) (t := (i : Int)) (by omega) (by omega)
  generalize (i : Int) = t at *
  simp only [mTB_d, mOp_d, mVar_d, t24, t9, t17, bindR_okS, ip, dLe_int, asB_d]
theorem range_from (c : Nat) : ∀ m : Nat, (List.range m).filter (fun i => decide (c ≤ i)) = (List.range (m - c)).map (· + c)
  | 0 => by simp
  | m + 1 => by
    rw [List.range_succ, List.filter_append, range_from c m]
    by_cases q : c ≤ m
    · rw [show m + 1 - c = (m - c) + 1 by omega, List.range_succ, List.map_append]
      simp [q]
    · rw [show m + 1 - c = 0 by omega, show m - c = 0 by omega]
      simp [q]
theorem able_eq (g : Gd P) {p : Int} (hp : P.floor ≤ p) : ableN P p = (List.range (1200 - (Fc P p).toNat)).map (· + (Fc P p).toNat) := by
  have f0 := Fc_nn g p
  rw [← range_from]
  unfold ableN
  refine List.filter_congr fun i hi => ?_
  refine decide_eq_decide.mpr ?_
  rw [Pt_le g (by omega)]
  omega
theorem able_none (g : Gd P) {p : Int} (hp : p < P.floor) : ableN P p = [] := by
  unfold ableN
  rw [List.filter_eq_nil_iff]
  intro i hi
  have := Pt_ge (P := P) (i : Int)
  simp
  omega
theorem able_some (g : Gd P) {p : Int} (hp : P.floor ≤ p) : ∃ r, ableN P p = (Fc P p).toNat :: r := by
  have f0 := Fc_nn g p
  have f1 := Fc_bd g hp
  rw [able_eq g hp]
  obtain ⟨k, hk⟩ : ∃ k, 1200 - (Fc P p).toNat = k + 1 := ⟨1200 - (Fc P p).toNat - 1, by omega⟩
  rw [hk, List.range_succ_eq_map]
  exact ⟨(List.map Nat.succ (List.range k)).map (· + (Fc P p).toNat), by simp⟩
theorem ints_nil (xs : List Int) (h : AH) : dNe (.lst (xs.map D.int)) (.lst []) h = .ok (.bl (!xs.isEmpty)) h :=
  dNe_lst_nil (f := PyData.int) fun b hb => rfl
theorem ableD_ints (p : Int) : ableD P p = .lst (((ableN P p).map fun (i : Nat) => (i : Int)).map D.int) := by
  unfold ableD
  rw [List.map_map]
  rfl
/-- able[0] if able != [] else None -/
theorem able_if (g : Gd P) {p : Int} {i : Nat} (v18 : σ[i]? = some (some (ableD P p))) : mIf (mTB (mOp dNe (mVar i) (mLst false (mNil)))) (mOp ixD (mVar i) (mC (.int 0))) (mC .non) σ h = .ok (sfD P p) h := by
  have ne := ints_nil ((ableN P p).map fun (i : Nat) => (i : Int)) h
  rw [← ableD_ints] at ne
  unfold sfD
  by_cases q : p < P.floor
  · rw [able_none g q] at ne
    have ne : dNe (ableD P p) (.lst []) h = .ok (.bl false) h := ne
    rw [if_pos q]
    simp [v18, ne, line3']
  · rw [if_neg q]
    obtain ⟨r, e⟩ := able_some g (by omega : P.floor ≤ p)
    rw [e] at ne
    have ne : dNe (ableD P p) (.lst []) h = .ok (.bl true) h := ne
    have f0 := Fc_nn g p
    have ix : ixD (ableD P p) (.int 0) h = .ok (.int (Fc P p)) h := by
      refine ix_lst2 (n := 0) rfl ?_
      rw [e]
      simp
      omega
    simp [v18, ne, line3', ix]
theorem fIdx_at {y : V} : ∀ {zs : List V} {k : Nat} {z : V}, zs[k]? = some z → eqV z y = true → (∀ (m : Nat) (z' : V), m < k → zs[m]? = some z' → eqV z' y = false) → fIdx y zs = some k
  | [], k, z, h, _, _ => by simp at h
  | w :: zs, 0, z, h, e, _ => by
    simp at h
    subst h
    unfold fIdx
    rw [if_pos e]
  | w :: zs, k + 1, z, h, e, hn => by
    have := hn 0 w (by omega) rfl
    unfold fIdx
    rw [if_neg (by rw [this]; simp), fIdx_at (k := k) (z := z) (by simpa using h) e (fun m z' hm hz => hn (m + 1) z' (by omega) (by simpa using hz))]
    rfl
theorem index_ok (g : Gd P) (h : AH) : mtIndex (prD P) [.int P.floor] h = .ok (.int (Fc P P.floor)) h := by
  have f0 := Fc_nn g P.floor
  have f1 := Fc_bd g (Int.le_refl P.floor)
  have e1 : getL h (prD P) = some ((List.range 1200).map fun (i : Nat) => .int (Pt P (i : Int))) := rfl
  have e2 : allS (((List.range 1200).map fun (i : Nat) => D.int (Pt P (i : Int))).map flatD) = some ((List.range 1200).map fun (i : Nat) => V.int (Pt P (i : Int))) := by
    rw [List.map_map]
    exact allS_mapS (List.range 1200) fun x _ => rfl
  have e3 : fIdx (.int P.floor) ((List.range 1200).map fun (i : Nat) => V.int (Pt P (i : Int))) = some (Fc P P.floor).toNat := by
    have hk : (Fc P P.floor).toNat < 1200 := by omega
    refine fIdx_at (z := .int (Pt P ((Fc P P.floor).toNat : Int))) ?_ ?_ fun m z' hm hz => ?_
    · rw [List.getElem?_map, List.getElem?_eq_getElem (by rw [List.length_range]; exact hk)]
      simp
    · have := (Pt_floor g (t := ((Fc P P.floor).toNat : Int)) (by omega)).mpr (by omega)
      rw [this]
      simp [eqV]
    · rw [List.getElem?_map, List.getElem?_eq_getElem (by rw [List.length_range]; omega)] at hz
      simp only [List.getElem_range, Option.map_some, Option.some.injEq] at hz
      subst hz
      have := Pt_floor g (t := (m : Int)) (by omega)
      have nq : ¬ Pt P (m : Int) = P.floor := fun q => by
        have := this.mp q
        omega
      simp [eqV, nq]
  simp only [mtIndex, e1, flatD, e2, e3]
  congr 2
  omega
theorem dNe_non (h : AH) : dNe .non .non h = .ok (.bl false) h := by simp [dNe, dEqB, toP, PyData.eqv]
theorem dNe_sf (p : Int) (h : AH) : dNe (sfD P p) (sfD P p) h = .ok (.bl false) h := by
  unfold sfD
  split
  · exact dNe_non h
  · rw [dNe_int]; simp
theorem s10 {p : Int} (g : Gd P) (E : En σ P n) (H : Hh P h n nt T now) (v9 : σ[9]? = some (some (prD P))) (v17 : σ[17]? = some (some (.int p))) (v18 : σ[18]? = some (some (ableD P p))) : lawS10 σ h = .ok (.nx σ) h := by
  unfold lawS10
  refine if_no ?_
  have c1 : mTB (mOp dNe (mMeth 0 "floor_from" (fun xs => f_fall_floor_from (xs ++ [])) (mVar 7) mNil) (mBM isLst mtIndex (mVar 9) (mCons (mVar 2) (mNil)))) σ h = .ok false h := by
    have m1 : mMeth 0 "floor_from" (fun xs => f_fall_floor_from (xs ++ [])) (mVar 7) mNil σ h = .ok (.int (Fc P P.floor)) h := by
      rw [mMeth_d2 (x := .ref n) (xs := []) (h1 := h) (h2 := h) (by simp [E.v7]) (H.fo.rcv rc2) rfl]
      exact floor_from_ok g H.fo
    have m2 : mBM isLst mtIndex (mVar 9) (mCons (mVar 2) (mNil)) σ h = .ok (.int (Fc P P.floor)) h := by
      have il : isLst h (prD P) = true := rfl
      unfold mBM
      simp only [mVar_d, v9, bindR_okS, il, if_true, mCons_d, E.v2, mNil_d, index_ok g h]
    rw [mTB_d, mOp_d, m1, bindR_okS, m2, bindR_okS, dNe_int]
    simp
  have c2 : mTB (mOp dNe (mMeth 0 "second_for" (fun xs => f_fall_second_for (xs ++ [])) (mVar 7) (mCons (mVar 17) (mNil))) (mIf (mTB (mOp dNe (mVar 18) (mLst false (mNil)))) (mOp ixD (mVar 18) (mC (.int 0))) (mC .non))) σ h = .ok false h := by
    have m1 : mMeth 0 "second_for" (fun xs => f_fall_second_for (xs ++ [])) (mVar 7) (mCons (mVar 17) (mNil)) σ h = .ok (sfD P p) h := by
      rw [mMeth_d2 (x := .ref n) (xs := [.int p]) (h1 := h) (h2 := h) (by simp [E.v7]) (H.fo.rcv rc3) (by simp [v17])]
      exact second_for_ok g H.fo p
    rw [mTB_d, mOp_d, m1, bindR_okS, able_if g v18, bindR_okS, dNe_sf]
    rfl
  rw [mOr_d, c1, bindR_okS, if_neg (by simp), c2]
theorem fmap_some {α β : Type} {f : α → Option β} {g : α → β} : ∀ {xs : List α}, (∀ k ∈ xs, f k = some (g k)) → xs.filterMap f = xs.map g
  | [], _ => rfl
  | x :: xs, h => by
    rw [List.filterMap_cons_some (h x (by simp)), fmap_some fun k hk => h k (by simp [hk])]
    rfl
theorem s9 (g : Gd P) (E : En σ P n) (H : Hh P h n nt T now) (v9 : σ[9]? = some (some (prD P))) : lawS9 σ h = .ok (.nx σ) h := by
  unfold lawS9
  refine if_no ?_
  have rgc : RgC 0 300 7 43 := by decide
  have e1 : mLc false (miCall rg3D (mCons (mC (.int 0)) (mCons (mC (.int 300)) (mCons (mC (.int 7)) (mNil))))) [24] (gmName 24) (mYes) (mMeth 0 "price_at" (fun xs => f_fall_price_at (xs ++ [])) (mVar 7) (mCons (mVar 24) (mNil))) σ h = .ok (.lst (((List.range 43).map fun (i : Nat) => Pt P ((i : Int) * 7)).map D.int)) h := by
    have mi : miCall rg3D (mCons (mC (.int 0)) (mCons (mC (.int 300)) (mCons (mC (.int 7)) (mNil)))) σ h = .ok (itRg 0 7 43) h := by
      simp only [miCall_d, mCons_d, mC_d, bindR_okS, mNil_d]
      show (if RgC 0 300 7 (Builtin.Range.rangeSize 0 300 7).toNat then Rv.ok (itRg 0 7 (Builtin.Range.rangeSize 0 300 7).toNat) h else .stuck) = _
      rw [show (Builtin.Range.rangeSize 0 300 7).toNat = 43 from rfl, if_pos rgc]
    rw [mLc_eq mi (itIs_rg 0 7 _) (big3 (by rw [rgD_len]; omega))]
    rw [show rgD 0 7 43 = (List.range 43).map fun (i : Nat) => D.int (0 + (i : Int) * 7) from rfl]
    rw [compL_map (out := fun (i : Nat) => .int (Pt P ((i : Int) * 7))) (List.range 43) (fun i hi => ⟨(wipeA σ [24]).set 24 (some (.int (0 + (i : Int) * 7))), rfl, rfl, ?_⟩) [] (by rw [List.length_range]; decide)]
    · rw [List.map_map]; rfl
    · have E1 : En ((wipeA σ [24]).set 24 (some (.int (0 + (i : Int) * 7)))) P n := (E.wipe (by decide)).set (by decide)
      have t24 : ((wipeA σ [24]).set 24 (some (.int (0 + (i : Int) * 7))))[24]? = some (some (.int (0 + (i : Int) * 7))) := get_set (by simp [wipeA, E.hl]) (by decide)
      rw [Int.zero_add] at *
      rw [mMeth_d2 (x := .ref n) (xs := [.int ((i : Int) * 7)]) (h1 := h) (h2 := h) (by simp [E1.v7]) (H.fo.rcv rc1) (by simp only [mCons_d, mVar_d, t24, bindR_okS, mNil_d])]
      exact price_at_ok g H.fo (by omega)
  have e2 : mSlS false 7 (mVar 9) (mPS (mC (.int 0))) (mPS (mC (.int 300))) σ h = .ok (.lst (((List.range 43).map fun (i : Nat) => Pt P ((i : Int) * 7)).map D.int)) h := by
    have pk : pickG ((List.range 1200).map fun (i : Nat) => D.int (Pt P (i : Int))) (some 0) (some 300) 7 = ((List.range 43).map fun (i : Nat) => Pt P ((i : Int) * 7)).map D.int := by
      unfold pickG
      rw [List.length_map, List.length_range]
      rw [show (sliceBounds (some 0) (some 300) (some 7) 1200) = (0, 300, 7) from rfl]
      dsimp only
      rw [show sliceRange 0 300 7 = (List.range 43).map fun (k : Nat) => k * 7 by decide +kernel]
      rw [List.filterMap_map, List.map_map]
      have : ∀ k ∈ List.range 43, ((fun x => ((List.range 1200).map fun (i : Nat) => D.int (Pt P (i : Int)))[x]?) ∘ fun k => k * 7) k = some ((D.int ∘ fun (i : Nat) => Pt P ((i : Int) * 7)) k) := by
        intro k hk
        have hk := List.mem_range.mp hk
        simp only [Function.comp]
        rw [List.getElem?_map, List.getElem?_eq_getElem (by rw [List.length_range]; omega)]
        simp
      exact fmap_some this
    unfold mSlS
    rw [show mVar 9 σ h = .ok (prD P) h by simp only [mVar_d, v9]]
    simp only [bindR_okS, mPS_d, mC_d]
    show slS false (prD P) (some 0) (some 300) 7 h = _
    have e1 : getL h (prD P) = some ((List.range 1200).map fun (i : Nat) => .int (Pt P (i : Int))) := rfl
    simp only [slS, e1, pk, mkL_f]
  rw [mTB_d, mOp_d, e1, bindR_okS, e2, bindR_okS, dNe_ints]
  rfl
theorem s11 (E : En σ P n) (hT : T.length ≤ 20) (v8 : σ[8]? = some (some (.lst (T.map tD)))) : lawS11 σ h = .ok (.nx (σ.set 19 (some (.lst ((nmL T).map D.str))))) h := by
  have dl := dedup_len (T := T)
  have hl := E.hl
  unfold lawS11
  refine asg_nx ?_
  have lc : mLc false (miLT (mVar 8)) [30] (gmName 30) (mYes) (mTup (mCons (mOp ixD (mVar 30) (mC (.int 1))) (mCons (mC (.int 1)) (mNil)))) σ h = .ok (.lst (T.map fun b => .tup [.str b.2.1, .int 1])) h := by
    rw [mLc_eq (it := itOf (.lst (T.map tD))) (ds := T.map tD) (h1 := h) (by simp [v8, itLT, getL]) (itIs_lst _) (big3 (by simp; omega))]
    rw [compL_map (out := fun b => .tup [.str b.2.1, .int 1]) T (fun b hb => ⟨(wipeA σ [30]).set 30 (some (tD b)), rfl, rfl, ?_⟩) [] (by simp; omega)]
    · rfl
    · have t30 : ((wipeA σ [30]).set 30 (some (tD b)))[30]? = some (some (tD b)) := get_set (by simp [wipeA, hl]) (by decide)
      simp [t30, ix_t1, line3']
  have pk : ∀ T : List Take, pairsK (T.map fun b => D.tup [.str b.2.1, .int 1]) = some (T.map fun b => ((.inr b.2.1 : Key), D.int 1)) := by
    intro T
    induction T with
    | nil => rfl
    | cons b r ih => simp only [List.map_cons, pairsK, pairK, keyD, Option.map, ih]
  have dc : bDict false [.lst (T.map fun b => D.tup [.str b.2.1, .int 1])] h = .ok (.dct (mergeKd [] (T.map fun b => ((.inr b.2.1 : Key), D.int 1)))) h := by
    simp only [bDict, getL, Option.bind_some, pk, mkK]
    rfl
  have mk := merge_keys (fun x : Take => x.2.1) (fun _ => D.int 1) T (K := []) (ks := []) rfl
  rw [mCB_d, mCons_d, mCB_d, mCons_d, lc, bindR_okS, mNil_d, bindR_okS, bindR_okS, dc, bindR_okS, mNil_d, bindR_okS, bindR_okS]
  exact srt_dct mk (by show (dedupL (T.map (·.2.1))).length < 64; omega)
def paidE (T : List Take) (x : Str) : D := .tup [.str x, .lst ((ofW T x).map tD)]
theorem nmL_in (w : WfT P T) : ∀ x ∈ nmL T, x ∈ NM := fun x hx => by
  obtain ⟨b, hb, rfl⟩ := nmL_mem.mp hx
  exact (w b hb).1
theorem s12 (E : En σ P n) (hT : T.length ≤ 20) (w : WfT P T) (v8 : σ[8]? = some (some (.lst (T.map tD)))) (v19 : σ[19]? = some (some (.lst ((nmL T).map D.str)))) : lawS12 σ h = .ok (.nx (σ.set 20 (some (.lst ((nmL T).map (paidE T)))))) h := by
  have nl := nmL_len (T := T)
  have hl := E.hl
  unfold lawS12
  refine asg_nx ?_
  rw [mLc_eq (it := itOf (.lst ((nmL T).map D.str))) (ds := (nmL T).map D.str) (h1 := h) (by simp [v19, itLT, getL]) (itIs_lst _) (big3 (by simp; omega))]
  rw [compL_map (out := paidE T) (nmL T) (fun x hx => ⟨(wipeA σ [12]).set 12 (some (.str x)), rfl, rfl, ?_⟩) [] (by simp; omega)]
  · rfl
  · have t12 : ((wipeA σ [12]).set 12 (some (.str x)))[12]? = some (some (.str x)) := get_set (by simp [wipeA, hl]) (by decide)
    have t8 : ((wipeA σ [12]).set 12 (some (.str x)))[8]? = some (some (.lst (T.map tD))) := by rw [List.getElem?_set_ne (by decide), wipe_ne (by decide), v8]
    have tl' : ((wipeA σ [12]).set 12 (some (.str x))).length = 33 := by simp [wipeA, hl]
    generalize (wipeA σ [12]).set 12 (some (.str x)) = τ at *
    have lc : mLc false (miLT (mVar 8)) [30] (gmName 30) (mTB (mOp dEq (mOp ixD (mVar 30) (mC (.int 1))) (mVar 12))) (mVar 30) τ h = .ok (.lst ((ofW T x).map tD)) h := by
      rw [mLc_eq (it := itOf (.lst (T.map tD))) (ds := T.map tD) (h1 := h) (by simp [t8, itLT, getL]) (itIs_lst _) (big3 (by simp; omega))]
      rw [compL_filter (P := fun r => decide (r.2.1 = x)) (out := tD) T (fun b hb => ⟨(wipeA τ [30]).set 30 (some (tD b)), rfl, ?_, fun _ => ?_⟩) [] (by simp; omega)]
      · rfl
      · have u30 : ((wipeA τ [30]).set 30 (some (tD b)))[30]? = some (some (tD b)) := get_set (by simp [wipeA, tl']) (by decide)
        have u12 : ((wipeA τ [30]).set 30 (some (tD b)))[12]? = some (some (.str x)) := by rw [List.getElem?_set_ne (by decide), wipe_ne (by decide), t12]
        have dq := dEq_str (w.ok b hb) (nm_ok (nmL_in w x hx)) h
        simp only [mTB_d, mOp_d, mVar_d, u30, u12, bindR_okS, mC_d, ix_t1, dq, asB_d]
      · have u30 : ((wipeA τ [30]).set 30 (some (tD b)))[30]? = some (some (tD b)) := get_set (by simp [wipeA, tl']) (by decide)
        simp only [mVar_d, u30]
    rw [mTup_d, mCons_d, mVar_d, t12]
    dsimp only
    rw [bindR_okS, mCons_d, lc]
    simp [line3', paidE]
theorem dNe_items {f : Str → D} {q : Str → PyData} {ns : List Str} (hn : ∀ x ∈ ns, PyData.strOk x = true) (hf : ∀ x ∈ ns, ∀ h, toP 18 h (f x) = some (q x)) (hq : ∀ x ∈ ns, PyData.eqv (q x) (q x) = true) (h : AH) :
    dNe (.lst (ns.map fun x => .tup [.str x, f x])) (.lst (ns.map fun x => .tup [.str x, f x])) h = .ok (.bl false) h :=
  dNe_lst_same (enc := fun x => .tup [.str x, f x]) (f := fun x => PyData.tuple [.str x, q x]) (fun x hx => by
    show (allS [toP 18 h (.str x), toP 18 h (f x)]).map PyData.tuple = _
    rw [hf x hx]
    simp [toP, hn x hx, allS]) fun x hx => by simp [PyData.eqv, PyData.eqvAll, hq x hx]
theorem dNe_strs (xs : List Str) (hx : ∀ x ∈ xs, PyData.strOk x = true) (h : AH) : dNe (.lst (xs.map D.str)) (.lst (xs.map D.str)) h = .ok (.bl false) h :=
  dNe_lst_same (f := PyData.str) (fun x h' => by simp [toP, hx x h']) fun x _ => by simp [PyData.eqv]
theorem list_tup (xs : List D) (h : AH) : bList false [.tup xs] h = .ok (.lst xs) h := rfl
theorem ofW_mem {x : Str} {r : Take} (hr : r ∈ ofW T x) : r ∈ T := (List.mem_filter.mp hr).1
theorem WfT.small (g : Gd P) (w : WfT P T) : ∀ r ∈ T, smallT r := fun r hr => by
  obtain ⟨a1, a2, a3, a4, a5, a6⟩ := w r hr
  have pb := Pt_bd g a4
  have nl : r.2.1.length ≤ 10 := by
    unfold NM at a1
    simp at a1
    rcases a1 with q | q | q <;> rw [q] <;> decide +kernel
  exact ⟨by omega, nl, by omega, by rw [a6]; omega⟩
theorem s13 (g : Gd P) (E : En σ P n) (H : Hh P h n nt T now) (hT : T.length ≤ 20) (w : WfT P T) (v8 : σ[8]? = some (some (.lst (T.map tD)))) (v20 : σ[20]? = some (some (.lst ((nmL T).map (paidE T))))) : ∃ h', Hh P h' n nt T now ∧ lawS13 σ h = .ok (.nx σ) h' := by
  have hl := E.hl
  have nl := nmL_len (T := T)
  have hm : ∀ r ∈ T, 0 ≤ r.2.2.1 ∧ r.2.2.1 ≤ 9 := fun r hr => by have := w r hr; omega
  have hp : ∀ r ∈ T, 0 ≤ r.2.2.2 ∧ r.2.2.2 ≤ 200 := fun r hr => by
    obtain ⟨a1, a2, a3, a4, a5, a6⟩ := w r hr
    have := Pt_bd g a4
    rw [a6]; omega
  obtain ⟨x, pk⟩ := paid_ok H.fo (by omega) hm
  have H1 := (H.app [x]).app [some (.dct (nd (nmL T) fun y => cD (cs T y)))]
  have it := nd_items (nmL T) (fun y => cD (cs T y)) (h ++ [x])
  refine ⟨h ++ [x] ++ [some (.dct (nd (nmL T) fun y => cD (cs T y)))], H1, ?_⟩
  generalize h ++ [x] ++ [some (O.dct (nd (nmL T) fun y => cD (cs T y)))] = h1 at *
  have e3 : ∀ (hh : AH), ∀ r ∈ T, mOp (dMul false) (mOp ixD (mVar 30) (mC (.int 2))) (mOp ixD (mVar 30) (mC (.int 3))) ((wipeA σ [30]).set 30 (some (tD r))) hh = .ok (.int (r.2.2.1 * r.2.2.2)) hh := fun hh r hr => by
    have t30 : ((wipeA σ [30]).set 30 (some (tD r)))[30]? = some (some (tD r)) := get_set (by simp [wipeA, hl]) (by decide)
    have := hm r hr
    simp only [mOp_d, mVar_d, t30, bindR_okS, mC_d, ix_t2, ix_t3, dMul_int (cmul_left this.1 (by omega) : CMul r.2.2.1 r.2.2.2)]
  have c1 : mTB (mOp dNe (mItems (mMeth 0 "paid_by" (fun xs => f_fall_paid_by (xs ++ [])) (mVar 7) mNil)) (mLc false (miLT (mVar 20)) [12, 23] (gmTup 2 (gmCons (gmName 12) (gmCons (gmName 23) (gmNil)))) (mYes) (mTup (mCons (mVar 12) (mCons (mTup (mCons (mCB bSum (mCons (mLc false (miLT (mVar 23)) [30] (gmName 30) (mYes) (mOp ixD (mVar 30) (mC (.int 2)))) (mNil))) (mCons (mCB bSum (mCons (mLc false (miLT (mVar 23)) [30] (gmName 30) (mYes) (mOp (dMul false) (mOp ixD (mVar 30) (mC (.int 2))) (mOp ixD (mVar 30) (mC (.int 3))))) (mNil))) (mNil)))) (mNil)))))) σ h = .ok false h1 := by
    have m1 : mItems (mMeth 0 "paid_by" (fun xs => f_fall_paid_by (xs ++ [])) (mVar 7) mNil) σ h = .ok (.lst ((nmL T).map fun y => .tup [.str y, cD (cs T y)])) h1 := by
      unfold mItems
      rw [mMeth_d2 (x := .ref n) (xs := []) (h1 := h) (h2 := h) (by simp [E.v7]) (H.fo.rcv rc6) rfl]
      rw [List.append_nil, pk, bindR_okS, it]
    have m2 : mLc false (miLT (mVar 20)) [12, 23] (gmTup 2 (gmCons (gmName 12) (gmCons (gmName 23) (gmNil)))) (mYes) (mTup (mCons (mVar 12) (mCons (mTup (mCons (mCB bSum (mCons (mLc false (miLT (mVar 23)) [30] (gmName 30) (mYes) (mOp ixD (mVar 30) (mC (.int 2)))) (mNil))) (mCons (mCB bSum (mCons (mLc false (miLT (mVar 23)) [30] (gmName 30) (mYes) (mOp (dMul false) (mOp ixD (mVar 30) (mC (.int 2))) (mOp ixD (mVar 30) (mC (.int 3))))) (mNil))) (mNil)))) (mNil)))) σ h1 = .ok (.lst ((nmL T).map fun y => .tup [.str y, cD (cs T y)])) h1 := by
      rw [mLc_eq (it := itOf (.lst ((nmL T).map (paidE T)))) (ds := (nmL T).map (paidE T)) (h1 := h1) (by simp [v20, itLT, getL]) (itIs_lst _) (big3 (by simp; omega))]
      rw [compL_map (out := fun y => .tup [.str y, cD (cs T y)]) (nmL T) (fun y hy => ⟨((wipeA σ [12, 23]).set 12 (some (.str y))).set 23 (some (.lst ((ofW T y).map tD))), by simp [paidE], rfl, ?_⟩) [] (by simp; omega)]
      · rfl
      · have t12 : (((wipeA σ [12, 23]).set 12 (some (.str y))).set 23 (some (.lst ((ofW T y).map tD))))[12]? = some (some (.str y)) := by rw [List.getElem?_set_ne (by decide), get_set (by simp [wipeA, hl]) (by decide)]
        have t23 : (((wipeA σ [12, 23]).set 12 (some (.str y))).set 23 (some (.lst ((ofW T y).map tD))))[23]? = some (some (.lst ((ofW T y).map tD))) := get_set (by simp [wipeA, hl]) (by decide)
        have tl' : (((wipeA σ [12, 23]).set 12 (some (.str y))).set 23 (some (.lst ((ofW T y).map tD)))).length = 33 := by simp [wipeA, hl]
        generalize ((wipeA σ [12, 23]).set 12 (some (.str y))).set 23 (some (.lst ((ofW T y).map tD))) = τ at *
        have ol : (ofW T y).length ≤ T.length := List.length_filter_le _ _
        have sm : ∀ (f : Take → Int) (e : ME), (∀ r ∈ ofW T y, e ((wipeA τ [30]).set 30 (some (tD r))) h1 = .ok (.int (f r)) h1) → mCB bSum (mCons (mLc false (miLT (mVar 23)) [30] (gmName 30) (mYes) e) (mNil)) τ h1 = .ok (.int (sumI ((ofW T y).map f))) h1 := fun f e he => by
          have lc : mLc false (miLT (mVar 23)) [30] (gmName 30) (mYes) e τ h1 = .ok (.lst (((ofW T y).map f).map D.int)) h1 := by
            rw [mLc_eq (it := itOf (.lst ((ofW T y).map tD))) (ds := (ofW T y).map tD) (h1 := h1) (by simp [t23, itLT, getL]) (itIs_lst _) (big3 (by simp; omega))]
            rw [compL_map (out := fun r => .int (f r)) (ofW T y) (fun r hr => ⟨(wipeA τ [30]).set 30 (some (tD r)), rfl, rfl, he r hr⟩) [] (by simp; omega)]
            simp
          rw [mCB_d, mCons_d, lc, bindR_okS, mNil_d, bindR_okS, bindR_okS, bSum_lst]
        have s1 := sm (fun r => r.2.2.1) (mOp ixD (mVar 30) (mC (.int 2))) fun r hr => by
          have t30 : ((wipeA τ [30]).set 30 (some (tD r)))[30]? = some (some (tD r)) := get_set (by simp [wipeA, tl']) (by decide)
          simp only [mOp_d, mVar_d, t30, bindR_okS, mC_d, ix_t2]
        have s2 := sm (fun r => r.2.2.1 * r.2.2.2) (mOp (dMul false) (mOp ixD (mVar 30) (mC (.int 2))) (mOp ixD (mVar 30) (mC (.int 3)))) fun r hr => by
          have t30 : ((wipeA τ [30]).set 30 (some (tD r)))[30]? = some (some (tD r)) := get_set (by simp [wipeA, tl']) (by decide)
          have := hm r (ofW_mem hr)
          simp only [mOp_d, mVar_d, t30, bindR_okS, mC_d, ix_t2, ix_t3, dMul_int (cmul_left this.1 (by omega) : CMul r.2.2.1 r.2.2.2)]
        rw [mTup_d, mCons_d, mVar_d, t12]
        dsimp only
        rw [bindR_okS, mCons_d, mTup_d, mCons_d, s1, bindR_okS, mCons_d, s2]
        simp [line3', cD, cs]
    rw [mTB_d, mOp_d, m1, bindR_okS, m2, bindR_okS, dNe_items (q := fun y => PyData.tuple [.int (cs T y).1, .int (cs T y).2]) (fun y hy => nm_ok (nmL_in w y hy)) (fun y _ h => rfl) (fun y _ => by simp [PyData.eqv, PyData.eqvAll])]
    rfl
  have c2 : mTB (mOp dNe (mMeth 0 "whole_price" (fun xs => f_fall_whole_price (xs ++ [])) (mVar 7) mNil) (mCB bSum (mCons (mLc false (miLT (mVar 8)) [30] (gmName 30) (mYes) (mOp (dMul false) (mOp ixD (mVar 30) (mC (.int 2))) (mOp ixD (mVar 30) (mC (.int 3))))) (mNil)))) σ h1 = .ok false h1 := by
    have m1 : mMeth 0 "whole_price" (fun xs => f_fall_whole_price (xs ++ [])) (mVar 7) mNil σ h1 = .ok (.int (sumI (T.map fun r => r.2.2.1 * r.2.2.2))) h1 := by
      rw [mMeth_d2 (x := .ref n) (xs := []) (h1 := h1) (h2 := h1) (by simp [E.v7]) (H1.fo.rcv rc7) rfl]
      exact whole_price_ok H1.fo (by omega) hm
    rw [mTB_d, mOp_d, m1, bindR_okS, own_lc (f := fun r => r.2.2.1 * r.2.2.2) hl (by omega) v8 (e3 h1), bindR_okS, dNe_int]
    simp
  have c3 : mTB (mOp dNe (mMeth 0 "at_last_price" (fun xs => f_fall_at_last_price (xs ++ [])) (mVar 7) mNil) (mIf (mTB (mOp dNe (mVar 8) (mLst false (mNil)))) (mOp (dMul false) (mCB bSum (mCons (mLc false (miLT (mVar 8)) [30] (gmName 30) (mYes) (mOp ixD (mVar 30) (mC (.int 2)))) (mNil))) (mOp ixD (mOp ixD (mVar 8) (mNeg (mC (.int 1)))) (mC (.int 3)))) (mC (.int 0)))) σ h1 = .ok false h1 := by
    have m1 : mMeth 0 "at_last_price" (fun xs => f_fall_at_last_price (xs ++ [])) (mVar 7) mNil σ h1 = .ok (.int (sumI (T.map fun r => r.2.2.1) * lastT T)) h1 := by
      rw [mMeth_d2 (x := .ref n) (xs := []) (h1 := h1) (h2 := h1) (by simp [E.v7]) (H1.fo.rcv rc8) rfl]
      exact at_last_ok H1.fo (by omega) w.ok hp
    have m2 : mIf (mTB (mOp dNe (mVar 8) (mLst false (mNil)))) (mOp (dMul false) (mCB bSum (mCons (mLc false (miLT (mVar 8)) [30] (gmName 30) (mYes) (mOp ixD (mVar 30) (mC (.int 2)))) (mNil))) (mOp ixD (mOp ixD (mVar 8) (mNeg (mC (.int 1)))) (mC (.int 3)))) (mC (.int 0)) σ h1 = .ok (.int (sumI (T.map fun r => r.2.2.1) * lastT T)) h1 := by
      have ne := dNe_lst_nil (enc := tD) (h := h1) (xs := T) (fun r hr => toP_take (w.ok r hr) h1)
      unfold lastT
      rcases last_or T with ⟨q1, q2⟩ | ⟨l, y, q1, q2⟩
      · rw [q2]
        subst q1
        have ne : dNe (.lst []) (.lst []) h1 = .ok (.bl false) h1 := ne
        have v8 : σ[8]? = some (some (.lst [])) := v8
        simp [v8, ne, line3', sumI]
      · rw [q2]
        have em : T.isEmpty = false := by rw [q1]; cases l <;> rfl
        rw [em] at ne
        have hy : y ∈ T := by rw [q1]; simp
        have py := hp y hy
        have il : ixD (.lst (T.map tD)) (.int (-1)) h1 = .ok (tD y) h1 := by rw [q1, List.map_append]; exact ix_last
        have tt : mTB (mOp dNe (mVar 8) (mLst false (mNil))) σ h1 = .ok true h1 := by simp [v8, ne, line3']
        rw [mIf_d, tt, bindR_okS, if_pos rfl, mOp_d, own_two hl (by omega) v8, bindR_okS]
        simp [v8, il, ix_t3, dMul_int (cmul_small py.1 (by omega) : CMul _ y.2.2.2)]
    rw [mTB_d, mOp_d, m1, bindR_okS, m2, bindR_okS, dNe_int]
    simp
  have c4 : mTB (mOp dNe (mCB (bList false) (mCons (mMeth 0 "take_lines" (fun xs => f_fall_take_lines (xs ++ [])) (mVar 7) mNil) (mNil))) (mLc false (miLT (mVar 8)) [30] (gmName 30) (mYes) (mJoin (mC (.str " ")) (mLc false (miLT (mVar 30)) [29] (gmName 29) (mYes) (mCB bStr (mCons (mVar 29) (mNil))))))) σ h1 = .ok false h1 := by
    have sm := w.small g
    have m1 : mCB (bList false) (mCons (mMeth 0 "take_lines" (fun xs => f_fall_take_lines (xs ++ [])) (mVar 7) mNil) (mNil)) σ h1 = .ok (.lst ((T.map lnS).map D.str)) h1 := by
      have m0 : mMeth 0 "take_lines" (fun xs => f_fall_take_lines (xs ++ [])) (mVar 7) mNil σ h1 = .ok (.tup (T.map fun r => .str (lnS r))) h1 := by
        rw [mMeth_d2 (x := .ref n) (xs := []) (h1 := h1) (h2 := h1) (by simp [E.v7]) (H1.fo.rcv rc9) rfl]
        exact take_lines_ok H1.fo (by omega) sm
      rw [mCB_d, mCons_d, m0, bindR_okS, mNil_d, bindR_okS, bindR_okS, list_tup, List.map_map]
      rfl
    have m2 : mLc false (miLT (mVar 8)) [30] (gmName 30) (mYes) (mJoin (mC (.str " ")) (mLc false (miLT (mVar 30)) [29] (gmName 29) (mYes) (mCB bStr (mCons (mVar 29) (mNil))))) σ h1 = .ok (.lst ((T.map lnS).map D.str)) h1 := by
      rw [mLc_eq (it := itOf (.lst (T.map tD))) (ds := T.map tD) (h1 := h1) (by simp [v8, itLT, getL]) (itIs_lst _) (big3 (by simp; omega))]
      rw [compL_map (out := fun r => .str (lnS r)) T (fun r hr => ⟨(wipeA σ [30]).set 30 (some (tD r)), rfl, rfl, ?_⟩) [] (by simp; omega)]
      · rw [List.map_map]; rfl
      · have t30 : ((wipeA σ [30]).set 30 (some (tD r)))[30]? = some (some (tD r)) := get_set (by simp [wipeA, hl]) (by decide)
        have tl' : ((wipeA σ [30]).set 30 (some (tD r))).length = 33 := by simp [wipeA, hl]
        generalize (wipeA σ [30]).set 30 (some (tD r)) = τ at *
        obtain ⟨a1, a2, a3, a4⟩ := sm r hr
        have t29 : ∀ d : D, ((wipeA τ [29]).set 29 (some d))[29]? = some (some d) := fun d => get_set (by simp [wipeA, tl']) (by decide)
        have lc : mLc false (miLT (mVar 30)) [29] (gmName 29) (mYes) (mCB bStr (mCons (mVar 29) (mNil))) τ h1 = .ok (.lst ([tS r.1, r.2.1, tS r.2.2.1, tS r.2.2.2].map D.str)) h1 := by
          rw [mLc_eq (it := itTup (tD r)) (ds := [.int r.1, .str r.2.1, .int r.2.2.1, .int r.2.2.2]) (h1 := h1) (by simp only [miLT_d, mVar_d, t30, bindR_okS]; rfl) (itIs_tup _) (big3 (by simp))]
          have z0 : (0 : Nat) < sizeLine := line3 (by omega)
          have z1 : (1 : Nat) < sizeLine := line3 (by omega)
          have z2 : (2 : Nat) < sizeLine := line3 (by omega)
          have z3 : (3 : Nat) < sizeLine := line3 (by omega)
          simp [compL, t29, str_int a1, str_int a3, str_int a4, str_str, z0, z1, z2, z3]
        have l1 := tS_len a1
        have l3 := tS_len a3
        have l4 := tS_len a4
        have sl := sp_len
        have gs : getS h1 (.lst ([tS r.1, r.2.1, tS r.2.2.1, tS r.2.2.2].map D.str)) = some ([tS r.1, r.2.1, tS r.2.2.1, tS r.2.2.2].map D.str) := rfl
        have ss : strsD ([tS r.1, r.2.1, tS r.2.2.1, tS r.2.2.2].map D.str) = some [tS r.1, r.2.1, tS r.2.2.1, tS r.2.2.2] := rfl
        have bd : ([tS r.1, r.2.1, tS r.2.2.1, tS r.2.2.2].map (·.length)).sum + [tS r.1, r.2.1, tS r.2.2.1, tS r.2.2.2].length * (Str.ofString " ").length ≤ 16777216 := by
          simp only [List.map_cons, List.map_nil, List.sum_cons, List.sum_nil, List.length_cons, List.length_nil, sl]
          omega
        unfold mJoin
        rw [mC_d, bindR_okS]
        dsimp only
        rw [lc, bindR_okS]
        unfold joinD
        rw [gs]
        dsimp only
        rw [ss]
        dsimp only
        rw [if_pos bd, ln_join]
    rw [mTB_d, mOp_d, m1, bindR_okS, m2, bindR_okS, dNe_strs _ (fun s hs => by
      obtain ⟨r, hr, rfl⟩ := List.mem_map.mp hs
      exact lnS_ok (w.ok r hr))]
    rfl
  unfold lawS13
  refine if_no ?_
  rw [mOr_d, c1, bindR_okS, if_neg (by simp), mOr_d, c2, bindR_okS, if_neg (by simp), mOr_d, c3, bindR_okS, if_neg (by simp), c4]
end K04
end
section
set_option Elab.async false
set_option linter.all false
set_option maxRecDepth 100000
namespace K04
open PySem DV L2 SrtO
variable {P : FP} {h : AH} {n nt : Nat} {T : List Take} {now : Int} {σ : AS} {ws : List Wish}
def wiE : ME := (mTup (mCons (mOp ixD (mLst false (mCons (mC (.str "a")) (mCons (mC (.str "b")) (mCons (mC (.str "c")) (mNil))))) (mCall (fun xs => f_law_roll (xs ++ [])) (mCons (mVar 1) (mCons (mC (.int 3)) (mNil))))) (mCons (mOp (dPlus false) (mC (.int 1)) (mCall (fun xs => f_law_roll (xs ++ [])) (mCons (mVar 1) (mCons (mC (.int 4)) (mNil))))) (mCons (mCall (fun xs => f_law_roll (xs ++ [])) (mCons (mVar 1) (mCons (mC (.int 180)) (mNil)))) (mNil)))))
def wOk (w : Wish) : Prop := w.1 ∈ NM ∧ 1 ≤ w.2.1 ∧ w.2.1 ≤ 4
theorem wish_one (H : Hh P h n nt T now) (v1 : σ[1]? = some (some (.ref 0))) : ∃ w h', wOk w ∧ Hh P h' n nt T now ∧ wiE σ h = .ok (wD w) h' := by
  obtain ⟨k, h1, a1, a2, H1, e1⟩ := H.roll 3 (by omega) (by omega)
  obtain ⟨m, h2, b1, b2, H2, e2⟩ := H1.roll 4 (by omega) (by omega)
  obtain ⟨u, h3, c1, c2, H3, e3⟩ := H2.roll 180 (by omega) (by omega)
  obtain ⟨x, hx, ix⟩ : ∃ x ∈ NM, ∀ h : AH, ixD (.lst [.str "a", .str "b", .str "c"]) (.int k) h = .ok (.str x) h := by
    have : k = 0 ∨ k = 1 ∨ k = 2 := by omega
    rcases this with rfl | rfl | rfl
    · exact ⟨"a", by simp [NM], fun h => ix_lst2 (n := 0) rfl rfl⟩
    · exact ⟨"b", by simp [NM], fun h => ix_lst2 (n := 1) rfl rfl⟩
    · exact ⟨"c", by simp [NM], fun h => ix_lst2 (n := 2) rfl rfl⟩
  refine ⟨(x, 1 + m, u), h3, ⟨hx, by dsimp only; omega, by dsimp only; omega⟩, H3, ?_⟩
  unfold wiE
  simp [v1, e1, e2, e3, ix, dPlus_int, line3', wD]
theorem wish_loop (v1 : σ[1]? = some (some (.ref 0))) : ∀ (ds : List D) (acc : List Wish) (h : AH), Hh P h n nt T now → acc.length + ds.length ≤ 100 →
    ∃ xs h', xs.length = ds.length ∧ (∀ w ∈ xs, wOk w) ∧ Hh P h' n nt T now ∧ compL (gmName 25) mYes wiE ds (wipeA σ [25]) (acc.map wD) h = .ok ((acc ++ xs).map wD) h'
  | [], acc, h, H, _ => ⟨[], h, rfl, by simp, H, by simp [compL]⟩
  | d :: ds, acc, h, H, hl => by
    simp only [List.length_cons] at hl
    have w1 : ((wipeA σ [25]).set 25 (some d))[1]? = some (some (.ref 0)) := by rw [List.getElem?_set_ne (by decide), wipe_ne (by decide), v1]
    obtain ⟨w, h1, a1, H1, e1⟩ := wish_one H w1
    obtain ⟨xs, h2, b1, b2, H2, e2⟩ := wish_loop v1 ds (acc ++ [w]) h1 H1 (by simp; omega)
    refine ⟨w :: xs, h2, by simp [b1], fun y hy => ?_, H2, ?_⟩
    · rcases List.mem_cons.mp hy with rfl | hy
      · exact a1
      · exact b2 y hy
    · have s1 : (acc.map wD).length < sizeLine := line3 (by simp; omega)
      rw [compL, gmName_d]
      dsimp only
      rw [mYes_d, noX_ok, bindR_okS, if_pos rfl, e1, noX_ok, bindR_okS, if_pos s1]
      rw [show acc.map wD ++ [wD w] = (acc ++ [w]).map wD by simp, e2, List.append_assoc]
      rfl
theorem s14 (E : En σ P n) (H : Hh P h n nt T now) : ∃ ws h', GW ws ∧ Hh P h' n nt T now ∧ lawS14 σ h = .ok (.nx (σ.set 21 (some (.lst (ws.map wD))))) h' := by
  obtain ⟨k, h1, a1, a2, H1, e1⟩ := H.roll 6 (by omega) (by omega)
  obtain ⟨xs, h2, b1, b2, H2, e2⟩ := wish_loop E.v1 (rgD 0 1 k.toNat) [] h1 H1 (by rw [rgD_len]; simp; omega)
  rw [rgD_len] at b1
  refine ⟨xs, h2, ⟨by omega, b2⟩, H2, ?_⟩
  have rb : rgB k := ⟨by omega, by omega⟩
  have lc := mLc_eq (mu := false) (vs := [25]) (mg := gmName 25) (mt := mYes) (me := wiE) (σ := σ) (it := itRg 0 1 k.toNat) (ds := rgD 0 1 k.toNat) (h1 := h1) (mi := miCall rg1D (mCons (mCall (fun xs => f_law_roll (xs ++ [])) (mCons (mVar 1) (mCons (mC (.int 6)) (mNil)))) (mNil))) (h := h) (by simp [E.v1, e1, rg1D, rb]) (itIs_rg 0 1 _) (big3 (by rw [rgD_len]; omega))
  rw [show ([] : List Wish).map wD = [] from rfl, List.nil_append] at e2
  rw [e2, bindR_okS, mkL_f] at lc
  exact asg_nx lc
theorem s15 (E : En σ P n) : lawS15 σ h = .ok (.nx ((σ.set 22 (some (.lst []))).set 15 (some (.int P.many)))) h := by
  unfold lawS15
  simp [E.v6, line3', parS, parSet]
theorem s16 (g : Gd P) (E : En σ P n) (hw : GW ws) (v9 : σ[9]? = some (some (prD P))) (v21 : σ[21]? = some (some (.lst (ws.map wD)))) : lawS16 σ h = .ok (.nx (σ.set 23 (some (.lst ((sP (rowsL P (enumL 0 ws))).map pD))))) h := by
  have hl := E.hl
  obtain ⟨h5, hw⟩ := hw
  unfold lawS16
  refine asg_nx ?_
  have lc : mLc false (miEnum (mCons (mVar 21) (mNil))) [25, 31] (gmTup 2 (gmCons (gmName 25) (gmCons (gmName 31) (gmNil)))) (mTB (mOp dGe (mOp ixD (mVar 31) (mC (.int 2))) (mVar 2))) (mTup (mCons (mOp ixD (mLc false (miCall rg1D (mCons (mC (.int 1200)) (mNil))) [24] (gmName 24) (mTB (mOp dLe (mOp ixD (mVar 9) (mVar 24)) (mOp ixD (mVar 31) (mC (.int 2))))) (mVar 24)) (mC (.int 0))) (mCons (mVar 25) (mNil)))) σ h = .ok (.lst ((rowsL P (enumL 0 ws)).map pD)) h := by
    rw [mLc_eq (it := itEn (.lst (ws.map wD))) (ds := enD 0 (ws.map wD)) (h1 := h) (by simp [v21, enIt, getS, getL]) (itIs_en fun _ => rfl) (big3 (by rw [enD_len]; simp; omega))]
    rw [enD_map, compL_filter (P := fun q => decide (P.floor ≤ q.2.2.2)) (out := fun q => pD (Fc P q.2.2.2, (q.1 : Int))) (enumL 0 ws) (fun q hq => ⟨((wipeA σ [25, 31]).set 25 (some (.int (q.1 : Int)))).set 31 (some (wD q.2)), by simp [enE], ?_, fun hq2 => ?_⟩) [] (by rw [enumL_len]; simp; omega)]
    · simp [rowsL]
    all_goals
      have E1 : En (((wipeA σ [25, 31]).set 25 (some (.int (q.1 : Int)))).set 31 (some (wD q.2))) P n := ((E.wipe (by decide)).set (by decide)).set (by decide)
      have t31 : (((wipeA σ [25, 31]).set 25 (some (.int (q.1 : Int)))).set 31 (some (wD q.2)))[31]? = some (some (wD q.2)) := get_set (by simp [wipeA, hl]) (by decide)
      have t25 : (((wipeA σ [25, 31]).set 25 (some (.int (q.1 : Int)))).set 31 (some (wD q.2)))[25]? = some (some (.int (q.1 : Int))) := by rw [List.getElem?_set_ne (by decide), get_set (by simp [wipeA, hl]) (by decide)]
      have t9 : (((wipeA σ [25, 31]).set 25 (some (.int (q.1 : Int)))).set 31 (some (wD q.2)))[9]? = some (some (prD P)) := by rw [List.getElem?_set_ne (by decide), List.getElem?_set_ne (by decide), wipe_ne (by decide), v9]
      generalize (q.1 : Int) = k at *
      generalize ((wipeA σ [25, 31]).set 25 (some (.int k))).set 31 (some (wD q.2)) = τ at *
    · simp only [mTB_d, mOp_d, mVar_d, t31, E1.v2, bindR_okS, mC_d, ix_w2, dGe_int, asB_d]
    · have hq3 : P.floor ≤ q.2.2.2 := of_decide_eq_true hq2
      have al := able_lc (P := P) (p := q.2.2.2) (h := h) (mt := mTB (mOp dLe (mOp ixD (mVar 9) (mVar 24)) (mOp ixD (mVar 31) (mC (.int 2))))) (σ := τ) (fun i hi => by
        have u24 : ((wipeA τ [24]).set 24 (some (.int (i : Int))))[24]? = some (some (.int (i : Int))) := get_set (by simp [wipeA, E1.hl]) (by decide)
        have u9 : ((wipeA τ [24]).set 24 (some (.int (i : Int))))[9]? = some (some (prD P)) := by rw [List.getElem?_set_ne (by decide), wipe_ne (by decide), t9]
        have u31 : ((wipeA τ [24]).set 24 (some (.int (i : Int))))[31]? = some (some (wD q.2)) := by rw [List.getElem?_set_ne (by decide), wipe_ne (by decide), t31]
        have ip := ix_pr (P := P) (t := (i : Int)) (by omega) (by omega)
        generalize (i : Int) = t at *
        simp only [mTB_d, mOp_d, mVar_d, u24, u9, u31, bindR_okS, ip, mC_d, ix_w2, dLe_int, asB_d]) E1.hl
      obtain ⟨r, e⟩ := able_some g hq3
      have f0 := Fc_nn g q.2.2.2
      have ix : ixD (ableD P q.2.2.2) (.int 0) h = .ok (.int (Fc P q.2.2.2)) h := by
        refine ix_lst2 (n := 0) rfl ?_
        rw [e]
        simp
        omega
      rw [mTup_d, mCons_d, mOp_d, al]
      simp [ix, t25, line3', pD]
  rw [mCB_d, mCons_d, lc, bindR_okS, mNil_d, bindR_okS, bindR_okS, srt_prsL]
def fnBody : MS := (sSeq (sAsg (mOp (dPlus false) (mVar 22) (mOp (dMul false) (mLst false (mCons (mTup (mCons (mVar 24) (mCons (mOp ixD (mOp ixD (mVar 21) (mVar 25)) (mC (.int 0))) (mCons (mCB bMin2 (mCons (mVar 15) (mCons (mOp ixD (mOp ixD (mVar 21) (mVar 25)) (mC (.int 1))) (mNil)))) (mCons (mOp ixD (mVar 9) (mVar 24)) (mNil)))))) (mNil))) (mCB bInt (mCons (mOp dGt (mVar 15) (mC (.int 0))) (mNil))))) (gmName 22)) (sAsg (mOp (dMinus) (mVar 15) (mCB bMin2 (mCons (mVar 15) (mCons (mOp ixD (mOp ixD (mVar 21) (mVar 25)) (mC (.int 1))) (mNil))))) (gmName 15)))
theorem rep_one (x : D) (b : Bool) (h : AH) : dMul false (.lst [x]) (.int (if b then 1 else 0)) h = .ok (.lst (if b then [x] else [])) h := by
  cases b <;> simp [dMul, getLs, line3']
theorem fn_loop (hw : ∀ w ∈ ws, wOk w) : ∀ (rs : List (Int × Int)) (left : Int) (F : List Take) (σ : AS), En σ P n → σ[9]? = some (some (prD P)) → σ[21]? = some (some (.lst (ws.map wD))) → σ[22]? = some (some (.lst (F.map tD))) → σ[15]? = some (some (.int left)) → 0 ≤ left → (∀ q ∈ rs, 0 ≤ q.1 ∧ q.1 < 1200 ∧ 0 ≤ q.2 ∧ q.2 < ws.length) → F.length + rs.length ≤ 100 →
    ∃ σ', En σ' P n ∧ (∀ j, j ∉ [15, 22, 24, 25] → σ'[j]? = σ[j]?) ∧ σ'[22]? = some (some (.lst ((F ++ fill P ws left rs).map tD))) ∧ forL (gmTup 2 (gmCons (gmName 24) (gmCons (gmName 25) (gmNil)))) fnBody (rs.map pD) σ h = .ok (.nx σ') h
  | [], left, F, σ, E, v9, v21, v22, v15, h0, hq, hl => ⟨σ, E, fun _ _ => rfl, by simpa [fill] using v22, rfl⟩
  | q :: rs, left, F, σ, E, v9, v21, v22, v15, h0, hq, hl => by
    simp only [List.length_cons] at hl
    obtain ⟨x0, x1, x2, x3⟩ := hq q (by simp)
    have hsl := E.hl
    have wk : wOk (wAt ws q.2) := by
      unfold wAt
      have hk : q.2.toNat < ws.length := by omega
      rw [List.getD_eq_getElem?_getD, List.getElem?_eq_getElem hk]
      exact hw _ (List.getElem_mem hk)
    obtain ⟨k1, k2, k3⟩ := wk
    have iw := fun hh => ix_w (ws := ws) x2 x3 hh
    have ip := fun hh => ix_pr (P := P) x0 x1 hh
    have E1 : En ((σ.set 24 (some (.int q.1))).set 25 (some (.int q.2))) P n := (E.set (by decide)).set (by decide)
    have t24 : ((σ.set 24 (some (.int q.1))).set 25 (some (.int q.2)))[24]? = some (some (.int q.1)) := by rw [List.getElem?_set_ne (by decide), get_set hsl (by decide)]
    have t25 : ((σ.set 24 (some (.int q.1))).set 25 (some (.int q.2)))[25]? = some (some (.int q.2)) := get_set (by simp [hsl]) (by decide)
    have t9 : ((σ.set 24 (some (.int q.1))).set 25 (some (.int q.2)))[9]? = some (some (prD P)) := by rw [List.getElem?_set_ne (by decide), List.getElem?_set_ne (by decide), v9]
    have t21 : ((σ.set 24 (some (.int q.1))).set 25 (some (.int q.2)))[21]? = some (some (.lst (ws.map wD))) := by rw [List.getElem?_set_ne (by decide), List.getElem?_set_ne (by decide), v21]
    have t22 : ((σ.set 24 (some (.int q.1))).set 25 (some (.int q.2)))[22]? = some (some (.lst (F.map tD))) := by rw [List.getElem?_set_ne (by decide), List.getElem?_set_ne (by decide), v22]
    have t15 : ((σ.set 24 (some (.int q.1))).set 25 (some (.int q.2)))[15]? = some (some (.int left)) := by rw [List.getElem?_set_ne (by decide), List.getElem?_set_ne (by decide), v15]
    have tj : ∀ j, j ∉ [15, 22, 24, 25] → ((σ.set 24 (some (.int q.1))).set 25 (some (.int q.2)))[j]? = σ[j]? := fun j hj => by
      simp only [List.mem_cons, List.not_mem_nil, or_false, not_or] at hj
      rw [List.getElem?_set_ne (Ne.symm hj.2.2.2), List.getElem?_set_ne (Ne.symm hj.2.2.1)]
    have tg : gmTup 2 (gmCons (gmName 24) (gmCons (gmName 25) (gmNil))) (pD q) σ h = .ok ((σ.set 24 (some (.int q.1))).set 25 (some (.int q.2))) h := by simp [pD]
    generalize (σ.set 24 (some (.int q.1))).set 25 (some (.int q.2)) = τ at *
    generalize hM : min left (wAt ws q.2).2.1 = M at *
    have M0 : 0 < M ↔ 0 < left := by rw [← hM]; omega
    have Ml : ¬ 0 < left → left - M = left := by rw [← hM]; omega
    have M9 : 0 ≤ left - M := by rw [← hM]; omega
    have e1 : mOp (dPlus false) (mVar 22) (mOp (dMul false) (mLst false (mCons (mTup (mCons (mVar 24) (mCons (mOp ixD (mOp ixD (mVar 21) (mVar 25)) (mC (.int 0))) (mCons (mCB bMin2 (mCons (mVar 15) (mCons (mOp ixD (mOp ixD (mVar 21) (mVar 25)) (mC (.int 1))) (mNil)))) (mCons (mOp ixD (mVar 9) (mVar 24)) (mNil)))))) (mNil))) (mCB bInt (mCons (mOp dGt (mVar 15) (mC (.int 0))) (mNil)))) τ h = .ok (.lst ((F ++ if 0 < M then [(q.1, (wAt ws q.2).1, M, Pt P q.1)] else []).map tD)) h := by
      have l1 : mLst false (mCons (mTup (mCons (mVar 24) (mCons (mOp ixD (mOp ixD (mVar 21) (mVar 25)) (mC (.int 0))) (mCons (mCB bMin2 (mCons (mVar 15) (mCons (mOp ixD (mOp ixD (mVar 21) (mVar 25)) (mC (.int 1))) (mNil)))) (mCons (mOp ixD (mVar 9) (mVar 24)) (mNil)))))) (mNil)) τ h = .ok (.lst [tD (q.1, (wAt ws q.2).1, M, Pt P q.1)]) h := by
        simp [t24, t21, t25, t15, t9, iw, ix_w0, ix_w1, ip, bMin2_int, line3', tD, hM]
      have l2 : mCB bInt (mCons (mOp dGt (mVar 15) (mC (.int 0))) (mNil)) τ h = .ok (.int (if decide (0 < left) then 1 else 0)) h := by
        simp [t15, dGt_int, bInt]
      have rp := rep_one (tD (q.1, (wAt ws q.2).1, M, Pt P q.1)) (decide (0 < left)) h
      rw [mOp_d, mVar_d, t22]
      dsimp only
      rw [bindR_okS, mOp_d, l1, bindR_okS, l2, bindR_okS, rp, bindR_okS]
      have s1 : F.length + 1 ≤ sizeLine := line3' (by omega)
      have s0 : F.length ≤ sizeLine := line3' (by omega)
      by_cases z : 0 < left
      · rw [if_pos (M0.mpr z)]
        simp [z, dPlus, dCat, getLs, s1]
      · rw [if_neg (fun hh => z (M0.mp hh))]
        simp [z, dPlus, dCat, getLs, s0]
    have E2 : En ((τ.set 22 (some (.lst ((F ++ if 0 < M then [(q.1, (wAt ws q.2).1, M, Pt P q.1)] else []).map tD)))).set 15 (some (.int (left - M)))) P n := (E1.set (by decide)).set (by decide)
    have e2 : fnBody τ h = .ok (.nx ((τ.set 22 (some (.lst ((F ++ if 0 < M then [(q.1, (wAt ws q.2).1, M, Pt P q.1)] else []).map tD)))).set 15 (some (.int (left - M))))) h := by
      unfold fnBody
      rw [seq_nx (asg_nx e1)]
      have u15 : (τ.set 22 (some (.lst ((F ++ if 0 < M then [(q.1, (wAt ws q.2).1, M, Pt P q.1)] else []).map tD))))[15]? = some (some (.int left)) := by rw [List.getElem?_set_ne (by decide), t15]
      have u21 : (τ.set 22 (some (.lst ((F ++ if 0 < M then [(q.1, (wAt ws q.2).1, M, Pt P q.1)] else []).map tD))))[21]? = some (some (.lst (ws.map wD))) := by rw [List.getElem?_set_ne (by decide), t21]
      have u25 : (τ.set 22 (some (.lst ((F ++ if 0 < M then [(q.1, (wAt ws q.2).1, M, Pt P q.1)] else []).map tD))))[25]? = some (some (.int q.2)) := by rw [List.getElem?_set_ne (by decide), t25]
      refine asg_nx ?_
      generalize τ.set 22 (some (.lst ((F ++ if 0 < M then [(q.1, (wAt ws q.2).1, M, Pt P q.1)] else []).map tD))) = ω at *
      simp [u15, u21, u25, iw, ix_w1, bMin2_int, dMinus_int, hM]
    obtain ⟨σ', E3, jj, v3, e3⟩ := fn_loop hw rs (left - M) (F ++ if 0 < M then [(q.1, (wAt ws q.2).1, M, Pt P q.1)] else []) _ E2 (by rw [List.getElem?_set_ne (by decide), List.getElem?_set_ne (by decide), t9]) (by rw [List.getElem?_set_ne (by decide), List.getElem?_set_ne (by decide), t21]) (by rw [List.getElem?_set_ne (by decide), get_set E1.hl (by decide)]) (get_set (by simp [E1.hl]) (by decide)) M9 (fun x hx => hq x (by simp [hx])) (by rw [List.length_append]; split <;> simp <;> omega)
    refine ⟨σ', E3, fun j hj => ?_, ?_, ?_⟩
    · rw [jj j hj]
      have hj' := hj
      simp only [List.mem_cons, List.not_mem_nil, or_false, not_or] at hj'
      rw [List.getElem?_set_ne (Ne.symm hj'.1), List.getElem?_set_ne (Ne.symm hj'.2.1), tj j hj]
    · rw [v3]
      have er : (F ++ if 0 < M then [(q.1, (wAt ws q.2).1, M, Pt P q.1)] else []) ++ fill P ws (left - M) rs = F ++ fill P ws left (q :: rs) := by
        rw [fill, hM]
        by_cases z : 0 < M
        · rw [if_pos z, if_pos z, List.append_assoc]; rfl
        · rw [if_neg z, if_neg z, List.append_nil, Ml (fun hh => z (M0.mpr hh))]
      rw [er]
    · rw [List.map_cons, forL, tg]
      dsimp only
      rw [e2, loopS_nx, e3]
theorem rowsL_ok2 (g : Gd P) : ∀ q ∈ sP (rowsL P (enumL 0 ws)), 0 ≤ q.1 ∧ q.1 < 1200 ∧ 0 ≤ q.2 ∧ q.2 < ws.length := fun q hq => by
  have hq := (isortB_perm (lt := lexB) _).mem_iff.mp hq
  have h1 := rowsL_ok (ws := ws) g q hq
  obtain ⟨p, hp, rfl⟩ := List.mem_map.mp hq
  have := Fc_bd g (of_decide_eq_true (List.mem_filter.mp hp).2)
  exact ⟨h1.1, by dsimp only; omega, h1.2⟩
theorem s17 (g : Gd P) (E : En σ P n) (hw : GW ws) (v9 : σ[9]? = some (some (prD P))) (v21 : σ[21]? = some (some (.lst (ws.map wD)))) (v22 : σ[22]? = some (some (.lst []))) (v15 : σ[15]? = some (some (.int P.many))) (v23 : σ[23]? = some (some (.lst ((sP (rowsL P (enumL 0 ws))).map pD)))) :
    ∃ σ', En σ' P n ∧ (∀ j, j ∉ [15, 22, 24, 25] → σ'[j]? = σ[j]?) ∧ σ'[22]? = some (some (.lst ((fill P ws P.many (sP (rowsL P (enumL 0 ws)))).map tD))) ∧ lawS17 σ h = .ok (.nx σ') h := by
  have m1 := g.m1
  have rl := rowsL_len (P := P) (enumL 0 ws)
  rw [enumL_len] at rl
  have spl : (sP (rowsL P (enumL 0 ws))).length = (rowsL P (enumL 0 ws)).length := (isortB_perm _).length_eq
  have h5 := hw.1
  obtain ⟨σ', E1, jj, a1, a2⟩ := fn_loop (h := h) hw.2 (sP (rowsL P (enumL 0 ws))) P.many [] σ E v9 v21 v22 v15 (by omega) (rowsL_ok2 g) (by rw [spl]; simp; omega)
  refine ⟨σ', E1, jj, a1, ?_⟩
  have lp := sFor_eq (mi := miLT (mVar 23)) (mg := gmTup 2 (gmCons (gmName 24) (gmCons (gmName 25) (gmNil)))) (s := fnBody) (σ := σ) (h := h) (h1 := h) (it := itOf (.lst ((sP (rowsL P (enumL 0 ws))).map pD))) (ds := (sP (rowsL P (enumL 0 ws))).map pD) (by simp [v23, itLT, getL]) (itIs_lst _) (big3 (by rw [List.length_map, spl]; omega))
  rw [a2] at lp
  exact lp
theorem fill_ok (hw : ∀ w ∈ ws, wOk w) : ∀ (rs : List (Int × Int)) (left : Int), ∀ r ∈ fill P ws left rs, PyData.strOk r.2.1 = true
  | [], left, r, hr => by simp [fill] at hr
  | q :: rs, left, r, hr => by
    have wk : PyData.strOk (wAt ws q.2).1 = true := by
      unfold wAt
      rw [List.getD_eq_getElem?_getD]
      cases e : ws[q.2.toNat]? with
      | none => exact (by decide +kernel : PyData.strOk "" = true)
      | some w => exact nm_ok (hw w (List.mem_of_getElem? e)).1
    unfold fill at hr
    split at hr
    · rcases List.mem_cons.mp hr with rfl | hr
      · exact wk
      · exact fill_ok hw rs _ r hr
    · exact fill_ok hw rs _ r hr
theorem s18 (g : Gd P) (E : En σ P n) (H : Hh P h n nt T now) (hw : GW ws) (v21 : σ[21]? = some (some (.lst (ws.map wD)))) (v22 : σ[22]? = some (some (.lst ((fill P ws P.many (sP (rowsL P (enumL 0 ws)))).map tD)))) : ∃ h', Hh P h' n nt T now ∧ lawS18 σ h = .ok (.nx σ) h' := by
  have i0 := init_ok (h := h) g
  have f2 : Fo P (h ++ [some (.ins 0 (fsD P (h.length + 1) 0)), some (.lst [])]) h.length (h.length + 1) [] 0 := by
    refine ⟨by simp, ?_⟩
    rw [List.getElem?_append_right (by omega)]
    simp
  obtain ⟨xs, eo⟩ := ends_ok g f2 hw
  refine ⟨h ++ [some (.ins 0 (fsD P (h.length + 1) 0)), some (.lst [])] ++ xs, (H.app _).app xs, ?_⟩
  unfold lawS18
  refine if_no ?_
  have mk : mMake 0 (fun xs => f_fall_init (xs ++ [])) (mCons (mVar 3) (mCons (mVar 4) (mCons (mVar 5) (mCons (mVar 2) (mCons (mVar 6) (mNil)))))) σ h = .ok (.ref h.length) (h ++ [some (.ins 0 (fsD P (h.length + 1) 0)), some (.lst [])]) := by
    unfold mMake initD
    simp [E.v2, E.v3, E.v4, E.v5, E.v6, i0]
  have m1 : mCB (bList false) (mCons (mCall (fun xs => f_fall_ends (xs ++ [])) (mCons (mMake 0 (fun xs => f_fall_init (xs ++ [])) (mCons (mVar 3) (mCons (mVar 4) (mCons (mVar 5) (mCons (mVar 2) (mCons (mVar 6) (mNil))))))) (mCons (mVar 21) (mNil)))) (mNil)) σ h = .ok (.lst ((fill P ws P.many (sP (rowsL P (enumL 0 ws)))).map tD)) (h ++ [some (.ins 0 (fsD P (h.length + 1) 0)), some (.lst [])] ++ xs) := by
    rw [mCB_d, mCons_d, mCall_d, mCons_d, mk, bindR_okS]
    simp only [mCons_d, mVar_d, v21, bindR_okS, mNil_d, List.append_nil, eo, list_tup]
  rw [mTB_d, mOp_d, m1, bindR_okS, mVar_d, v22]
  dsimp only
  rw [bindR_okS, dNe_takes (fill_ok hw.2 _ _)]
  rfl
end K04
end
section
set_option Elab.async false
set_option linter.all false
set_option maxRecDepth 100000
namespace K04
open PySem DV L2 SrtO
variable {P : FP} {h : AH} {n nt : Nat} {T : List Take} {now : Int} {σ : AS} {ws : List Wish}
theorem s19 : lawS19 σ h = .ok (.nx ((σ.set 26 (some (.lst []))).set 24 (some (.int 0)))) h := by
  unfold lawS19
  simp [line3', parS, parSet]
theorem nbrs_snoc {α : Type} : ∀ (xs : List α) (x : α), nbrs (xs ++ [x]) = nbrs xs ++ (match xs.getLast? with | some y => [(y, x)] | none => [])
  | [], x => rfl
  | [a], x => rfl
  | a :: b :: r, x => by
    have := nbrs_snoc (b :: r) x
    show (a, b) :: nbrs ((b :: r) ++ [x]) = ((a, b) :: nbrs (b :: r)) ++ _
    rw [this, List.getLast?_cons_cons]
    rfl
structure CI (cs : List (Int × Int)) (s : Int) : Prop where
  up : ∀ q ∈ nbrs cs, q.1.1 < q.2.1
  pt : ∀ c ∈ cs, 0 ≤ c.2 ∧ c.2 ≤ 1000
  last : ∀ c, cs.getLast? = some c → c.1 = s
  s0 : 0 ≤ s
  s1 : s ≤ 30 * cs.length
theorem CI.snoc {cs : List (Int × Int)} {s a b : Int} (c : CI cs s) (h0 : 0 ≤ a) (h1 : a < 30) (b0 : 0 ≤ b) (b1 : b ≤ 1000) : CI (cs ++ [(s + 1 + a, b)]) (s + 1 + a) := by
  have s0 := c.s0
  have s1 := c.s1
  refine ⟨fun q hq => ?_, fun x hx => ?_, fun x hx => ?_, by omega, by simp; omega⟩
  · rw [nbrs_snoc] at hq
    rcases List.mem_append.mp hq with hq | hq
    · exact c.up q hq
    · rcases last_or cs with ⟨_, q2⟩ | ⟨l, y, _, q2⟩
      · rw [q2] at hq; simp at hq
      · rw [q2] at hq
        simp at hq
        subst hq
        have := c.last y q2
        dsimp only
        omega
  · rcases List.mem_append.mp hx with hx | hx
    · exact c.pt x hx
    · simp at hx; subst hx; exact ⟨b0, b1⟩
  · simp at hx; subst hx; rfl
def chBody : MS := (sSeq (sAsg (mOp (dPlus false) (mOp (dPlus false) (mVar 24) (mC (.int 1))) (mCall (fun xs => f_law_roll (xs ++ [])) (mCons (mVar 1) (mCons (mC (.int 30)) (mNil))))) (gmName 24)) (sAsg (mOp (dPlus false) (mVar 26) (mLst false (mCons (mTup (mCons (mVar 24) (mCons (mCall (fun xs => f_law_roll (xs ++ [])) (mCons (mVar 1) (mCons (mC (.int 1001)) (mNil)))) (mNil)))) (mNil)))) (gmName 26)))
theorem ch_loop : ∀ (ds : List D) (cs : List (Int × Int)) (s : Int) (σ : AS) (h : AH), En σ P n → Hh P h n nt T now → CI cs s → cs.length + ds.length ≤ 50 → σ[24]? = some (some (.int s)) → σ[26]? = some (some (.lst (cs.map pD))) →
    ∃ cs' s' σ' h', En σ' P n ∧ Hh P h' n nt T now ∧ CI cs' s' ∧ cs'.length = cs.length + ds.length ∧ (∀ j, j ∉ [24, 25, 26] → σ'[j]? = σ[j]?) ∧ σ'[24]? = some (some (.int s')) ∧ σ'[26]? = some (some (.lst (cs'.map pD))) ∧ forL (gmName 25) chBody ds σ h = .ok (.nx σ') h'
  | [], cs, s, σ, h, E, H, c, hl, v24, v26 => ⟨cs, s, σ, h, E, H, c, rfl, fun _ _ => rfl, v24, v26, rfl⟩
  | d :: ds, cs, s, σ, h, E, H, c, hl, v24, v26 => by
    simp only [List.length_cons] at hl
    obtain ⟨a, h1, a1, a2, H1, e1⟩ := H.roll 30 (by omega) (by omega)
    obtain ⟨b, h2, b1, b2, H2, e2⟩ := H1.roll 1001 (by omega) (by omega)
    have E1 : En (σ.set 25 (some d)) P n := E.set (by decide)
    have w24 : (σ.set 25 (some d))[24]? = some (some (.int s)) := by rw [List.getElem?_set_ne (by decide), v24]
    have w26 : (σ.set 25 (some d))[26]? = some (some (.lst (cs.map pD))) := by rw [List.getElem?_set_ne (by decide), v26]
    have wj : ∀ j, j ∉ [24, 25, 26] → (σ.set 25 (some d))[j]? = σ[j]? := fun j hj => by
      simp only [List.mem_cons, List.not_mem_nil, or_false, not_or] at hj
      rw [List.getElem?_set_ne (Ne.symm hj.2.1)]
    generalize hτ : σ.set 25 (some d) = τ at *
    have E2 : En ((τ.set 24 (some (.int (s + 1 + a)))).set 26 (some (.lst ((cs ++ [(s + 1 + a, b)]).map pD)))) P n := (E1.set (by decide)).set (by decide)
    have st : chBody τ h = .ok (.nx ((τ.set 24 (some (.int (s + 1 + a)))).set 26 (some (.lst ((cs ++ [(s + 1 + a, b)]).map pD))))) h2 := by
      unfold chBody
      rw [seq_nx (asg_nx (d := .int (s + 1 + a)) (h1 := h1) (by simp [w24, E1.v1, e1, dPlus_int]))]
      have u1 : (τ.set 24 (some (.int (s + 1 + a))))[1]? = some (some (.ref 0)) := by rw [List.getElem?_set_ne (by decide), E1.v1]
      have u24 : (τ.set 24 (some (.int (s + 1 + a))))[24]? = some (some (.int (s + 1 + a))) := get_set E1.hl (by decide)
      have u26 : (τ.set 24 (some (.int (s + 1 + a))))[26]? = some (some (.lst (cs.map pD))) := by rw [List.getElem?_set_ne (by decide), w26]
      refine asg_nx ?_
      have l1 : mLst false (mCons (mTup (mCons (mVar 24) (mCons (mCall (fun xs => f_law_roll (xs ++ [])) (mCons (mVar 1) (mCons (mC (.int 1001)) (mNil)))) (mNil)))) (mNil)) (τ.set 24 (some (.int (s + 1 + a)))) h1 = .ok (.lst [pD (s + 1 + a, b)]) h2 := by
        simp [u24, u1, e2, line3', pD]
      have z1 : cs.length + 1 ≤ sizeLine := line3' (by omega)
      rw [mOp_d, mVar_d, u26]
      dsimp only
      rw [bindR_okS, l1, bindR_okS]
      simp [dPlus, dCat, getLs, z1]
    obtain ⟨cs', s', σ', h', E3, H3, c3, l3, j3, x24, x26, e3⟩ := ch_loop ds (cs ++ [(s + 1 + a, b)]) (s + 1 + a) _ h2 E2 H2 (c.snoc a1 a2 b1 (by omega)) (by simp; omega) (by rw [List.getElem?_set_ne (by decide), get_set E1.hl (by decide)]) (get_set (by simp [E1.hl]) (by decide))
    refine ⟨cs', s', σ', h', E3, H3, c3, by rw [l3]; simp; omega, fun j hj => ?_, x24, x26, ?_⟩
    · rw [j3 j hj]
      have hj' := hj
      simp only [List.mem_cons, List.not_mem_nil, or_false, not_or] at hj'
      rw [List.getElem?_set_ne (Ne.symm hj'.2.2), List.getElem?_set_ne (Ne.symm hj'.1), wj j hj]
    · rw [forL, gmName_d]
      dsimp only
      rw [hτ, st, loopS_nx, e3]
theorem s20 (E : En σ P n) (H : Hh P h n nt T now) (v24 : σ[24]? = some (some (.int 0))) (v26 : σ[26]? = some (some (.lst []))) :
    ∃ (cs : List (Int × Int)) (s : Int) (σ' : AS) (h' : AH), En σ' P n ∧ Hh P h' n nt T now ∧ GC cs ∧ 0 ≤ s ∧ s ≤ 90 ∧ (∀ j, j ∉ [24, 25, 26] → σ'[j]? = σ[j]?) ∧ σ'[24]? = some (some (.int s)) ∧ σ'[26]? = some (some (.lst (cs.map pD))) ∧ lawS20 σ h = .ok (.nx σ') h' := by
  obtain ⟨k, h1, a1, a2, H1, e1⟩ := H.roll 4 (by omega) (by omega)
  obtain ⟨cs, s, σ', h', E2, H2, c2, l2, j2, b1, b2, e2⟩ := ch_loop (rgD 0 1 k.toNat) [] 0 σ h1 E H1 ⟨by simp [nbrs], by simp, by simp, by omega, by simp⟩ (by rw [rgD_len]; simp; omega) v24 v26
  rw [rgD_len] at l2
  simp only [List.length_nil, Nat.zero_add] at l2
  have s1 := c2.s1
  refine ⟨cs, s, σ', h', E2, H2, ⟨by omega, c2.up, c2.pt⟩, c2.s0, by omega, j2, b1, b2, ?_⟩
  have rb : rgB k := ⟨by omega, by omega⟩
  have lp := sFor_eq (mi := miCall rg1D (mCons (mCall (fun xs => f_law_roll (xs ++ [])) (mCons (mVar 1) (mCons (mC (.int 4)) (mNil)))) (mNil))) (mg := gmName 25) (s := chBody) (σ := σ) (h := h) (h1 := h1) (it := itRg 0 1 k.toNat) (ds := rgD 0 1 k.toNat) (by simp [E.v1, e1, rg1D, rb]) (itIs_rg 0 1 _) (big3 (by rw [rgD_len]; omega))
  rw [e2] at lp
  exact lp
theorem s21 {p : Int} (g : Gd P) (v18 : σ[18]? = some (some (ableD P p))) : lawS21 σ h = .ok (.nx ((σ.set 27 (some (.lst []))).set 28 (some (sfD P p)))) h := by
  unfold lawS21
  have l0 : mLst false (mNil) σ h = .ok (.lst []) h := by simp [line3']
  rw [sAsg_d, mTup_d, mCons_d, l0, bindR_okS, mCons_d, able_if g v18]
  simp [line3']
def tryE (P : FP) (p : Int) (cs : List (Int × Int)) (t : Int) : Int × Int := (-(partV cs t) * (p - Pt P t), t)
def trBody : MS := (sSeq (sAsg (mOp (dPlus false) (mLst false (mCons (mC (.int 1000)) (mNil))) (mLc false (miLT (mVar 26)) [14, 32] (gmTup 2 (gmCons (gmName 14) (gmCons (gmName 32) (gmNil)))) (mTB (mOp dLe (mVar 14) (mVar 28))) (mVar 32))) (gmName 29)) (sSeq (sAsg (mOp (dPlus false) (mVar 27) (mLst false (mCons (mTup (mCons (mOp (dMul false) (mNeg (mOp ixD (mVar 29) (mNeg (mC (.int 1))))) (mOp (dMinus) (mVar 17) (mOp ixD (mVar 9) (mVar 28)))) (mCons (mVar 28) (mNil)))) (mNil)))) (gmName 27)) (sAsg (mIf (mTB (mOp dLt (mVar 28) (mBM isLst mtIndex (mVar 9) (mCons (mVar 2) (mNil))))) (mOp (dPlus false) (mVar 28) (mVar 5)) (mC .non)) (gmName 28))))
structure Tw (σ : AS) (P : FP) (n : Nat) (p : Int) (cs : List (Int × Int)) : Prop where
  E : En σ P n
  v9 : σ[9]? = some (some (prD P))
  v17 : σ[17]? = some (some (.int p))
  v26 : σ[26]? = some (some (.lst (cs.map pD)))
theorem Tw.set {p : Int} {cs : List (Int × Int)} (W : Tw σ P n p cs) {j : Nat} {x : Option D} (h1 : j ∉ [1, 2, 3, 4, 5, 6, 7]) (h2 : j ∉ [9, 17, 26]) : Tw (σ.set j x) P n p cs := by
  simp only [List.mem_cons, List.not_mem_nil, or_false, not_or] at h2
  exact ⟨W.E.set h1, by rw [List.getElem?_set_ne h2.1, W.v9], by rw [List.getElem?_set_ne h2.2.1, W.v17], by rw [List.getElem?_set_ne h2.2.2, W.v26]⟩
theorem tr_step (g : Gd P) {p t : Int} {cs : List (Int × Int)} (c : GC cs) (W : Tw σ P n p cs) {ts : List (Int × Int)} (hl : ts.length ≤ 2000) (h0 : 0 ≤ t) (h1 : t < 1200) (v27 : σ[27]? = some (some (.lst (ts.map pD)))) (v28 : σ[28]? = some (some (.int t))) :
    ∃ σ', Tw σ' P n p cs ∧ (∀ j, j ∉ [27, 28, 29] → σ'[j]? = σ[j]?) ∧ σ'[27]? = some (some (.lst ((ts ++ [tryE P p cs t]).map pD))) ∧ σ'[28]? = some (some (if t < Fc P P.floor then .int (t + P.secs) else .non)) ∧ trBody σ h = .ok (.nx σ') h := by
  have hsl := W.E.hl
  have pb := partV_bd c t
  unfold trBody
  rw [seq_nx (asg_nx (part_lc (h := h) c (by decide) (by rw [hsl]; decide) (by rw [hsl]; decide) (by decide) (by decide) W.v26 v28))]
  have W1 : Tw (σ.set 29 (some (.lst (((1000 : Int) :: (cs.filter fun c => decide (c.1 ≤ t)).map (·.2)).map D.int)))) P n p cs := W.set (by decide) (by decide)
  have t29 : (σ.set 29 (some (.lst (((1000 : Int) :: (cs.filter fun c => decide (c.1 ≤ t)).map (·.2)).map D.int))))[29]? = some (some (.lst (((1000 : Int) :: (cs.filter fun c => decide (c.1 ≤ t)).map (·.2)).map D.int))) := get_set hsl (by decide)
  have t27 : (σ.set 29 (some (.lst (((1000 : Int) :: (cs.filter fun c => decide (c.1 ≤ t)).map (·.2)).map D.int))))[27]? = some (some (.lst (ts.map pD))) := by rw [List.getElem?_set_ne (by decide), v27]
  have t28 : (σ.set 29 (some (.lst (((1000 : Int) :: (cs.filter fun c => decide (c.1 ≤ t)).map (·.2)).map D.int))))[28]? = some (some (.int t)) := by rw [List.getElem?_set_ne (by decide), v28]
  have tj : ∀ j, j ∉ [27, 28, 29] → (σ.set 29 (some (.lst (((1000 : Int) :: (cs.filter fun c => decide (c.1 ≤ t)).map (·.2)).map D.int))))[j]? = σ[j]? := fun j hj => by
    simp only [List.mem_cons, List.not_mem_nil, or_false, not_or] at hj
    rw [List.getElem?_set_ne (Ne.symm hj.2.2)]
  have pix := part_ix cs t h
  generalize hL : D.lst (((1000 : Int) :: (cs.filter fun c => decide (c.1 ≤ t)).map (·.2)).map D.int) = L at *
  generalize σ.set 29 (some L) = τ at *
  have ip := ix_pr (P := P) h0 h1 h
  have e2 : mOp (dPlus false) (mVar 27) (mLst false (mCons (mTup (mCons (mOp (dMul false) (mNeg (mOp ixD (mVar 29) (mNeg (mC (.int 1))))) (mOp (dMinus) (mVar 17) (mOp ixD (mVar 9) (mVar 28)))) (mCons (mVar 28) (mNil)))) (mNil))) τ h = .ok (.lst ((ts ++ [tryE P p cs t]).map pD)) h := by
    have cm : CMul (-(partV cs t)) (p - Pt P t) := .inl ⟨by omega, by omega⟩
    have l1 : mLst false (mCons (mTup (mCons (mOp (dMul false) (mNeg (mOp ixD (mVar 29) (mNeg (mC (.int 1))))) (mOp (dMinus) (mVar 17) (mOp ixD (mVar 9) (mVar 28)))) (mCons (mVar 28) (mNil)))) (mNil)) τ h = .ok (.lst [pD (tryE P p cs t)]) h := by
      simp [t29, pix, W1.v17, W1.v9, t28, ip, dMinus_int, dMul_int cm, line3', pD, tryE]
    have z1 : ts.length + 1 ≤ sizeLine := by rw [sizeLine_eq]; omega
    rw [mOp_d, mVar_d, t27]
    dsimp only
    rw [bindR_okS, l1, bindR_okS]
    simp [dPlus, dCat, getLs, z1]
  rw [seq_nx (asg_nx e2)]
  have W2 : Tw (τ.set 27 (some (.lst ((ts ++ [tryE P p cs t]).map pD)))) P n p cs := W1.set (by decide) (by decide)
  have u28 : (τ.set 27 (some (.lst ((ts ++ [tryE P p cs t]).map pD))))[28]? = some (some (.int t)) := by rw [List.getElem?_set_ne (by decide), t28]
  have u27 : (τ.set 27 (some (.lst ((ts ++ [tryE P p cs t]).map pD))))[27]? = some (some (.lst ((ts ++ [tryE P p cs t]).map pD))) := get_set W1.E.hl (by decide)
  have uj : ∀ j, j ∉ [27, 28, 29] → (τ.set 27 (some (.lst ((ts ++ [tryE P p cs t]).map pD))))[j]? = σ[j]? := fun j hj => by
    have hj' := hj
    simp only [List.mem_cons, List.not_mem_nil, or_false, not_or] at hj'
    rw [List.getElem?_set_ne (Ne.symm hj'.1), tj j hj]
  generalize τ.set 27 (some (.lst ((ts ++ [tryE P p cs t]).map pD))) = ω at *
  refine ⟨ω.set 28 (some (if t < Fc P P.floor then .int (t + P.secs) else .non)), W2.set (by decide) (by decide), fun j hj => ?_, by rw [List.getElem?_set_ne (by decide), u27], get_set W2.E.hl (by decide), asg_nx ?_⟩
  · have hj' := hj
    simp only [List.mem_cons, List.not_mem_nil, or_false, not_or] at hj'
    rw [List.getElem?_set_ne (Ne.symm hj'.2.1), uj j hj]
  · have m2 : mBM isLst mtIndex (mVar 9) (mCons (mVar 2) (mNil)) ω h = .ok (.int (Fc P P.floor)) h := by
      have il : isLst h (prD P) = true := rfl
      unfold mBM
      simp only [mVar_d, W2.v9, bindR_okS, il, if_true, mCons_d, W2.E.v2, mNil_d, index_ok g h]
    by_cases q : t < Fc P P.floor
    · rw [if_pos q]
      simp [u28, m2, dLt_int, q, W2.E.v5, dPlus_int]
    · rw [if_neg q]
      simp [u28, m2, dLt_int, q]
theorem tr_while (g : Gd P) {p : Int} {cs : List (Int × Int)} (c : GC cs) : ∀ (k : Nat) (t : Int) (N : Nat) (ts : List (Int × Int)) (σ : AS), Tw σ P n p cs → 0 ≤ t → (t < Fc P P.floor + P.secs) → (Fc P P.floor - t).toNat < k → k < N → ts.length + k ≤ 2000 → σ[27]? = some (some (.lst (ts.map pD))) → σ[28]? = some (some (.int t)) →
    ∃ σ', Tw σ' P n p cs ∧ (∀ j, j ∉ [27, 28, 29] → σ'[j]? = σ[j]?) ∧ σ'[27]? = some (some (.lst ((ts ++ (heres P k t).map (tryE P p cs)).map pD))) ∧ whileN (mTB (mOp dNotN (mVar 28) (mC .non))) trBody N σ h = .ok (.nx σ') h
  | 0, t, N, ts, σ, W, h0, h1, hk, hN, hl, v27, v28 => by omega
  | k + 1, t, 0, ts, σ, W, h0, h1, hk, hN, hl, v27, v28 => by omega
  | k + 1, t, N + 1, ts, σ, W, h0, h1, hk, hN, hl, v27, v28 => by
    have s1 := g.s1
    have s2 := g.s2
    have fb := Fc_bd g (Int.le_refl P.floor)
    obtain ⟨σ1, W1, j1, a27, a28, e1⟩ := tr_step (h := h) g c W (ts := ts) (by omega) h0 (by omega) v27 v28
    have tt : mTB (mOp dNotN (mVar 28) (mC .non)) σ h = .ok true h := by simp [v28, dNotN, isN]
    rw [while_go tt e1, heres]
    by_cases q : t < Fc P P.floor
    · rw [if_pos q]
      rw [if_pos q] at a28
      obtain ⟨σ2, W2, j2, b27, e2⟩ := tr_while g c k (t + P.secs) N (ts ++ [tryE P p cs t]) σ1 W1 (by omega) (by omega) (by omega) (by omega) (by simp; omega) a27 a28
      refine ⟨σ2, W2, fun j hj => by rw [j2 j hj, j1 j hj], ?_, e2⟩
      rw [b27, List.append_assoc]
      rfl
    · rw [if_neg q]
      rw [if_neg q] at a28
      refine ⟨σ1, W1, j1, a27, ?_⟩
      cases N with
      | zero => omega
      | succ N => rw [while_end (h1 := h) (by simp [a28, dNotN, isN])]
def triesL (P : FP) (p : Int) (cs : List (Int × Int)) : List (Int × Int) := if p < P.floor then [] else (heres P 1100 (Fc P p)).map (tryE P p cs)
theorem s22 (g : Gd P) {p : Int} {cs : List (Int × Int)} (c : GC cs) (W : Tw σ P n p cs) (v27 : σ[27]? = some (some (.lst []))) (v28 : σ[28]? = some (some (sfD P p))) :
    ∃ σ', Tw σ' P n p cs ∧ (∀ j, j ∉ [27, 28, 29] → σ'[j]? = σ[j]?) ∧ σ'[27]? = some (some (.lst ((triesL P p cs).map pD))) ∧ lawS22 σ h = .ok (.nx σ') h := by
  have s1 := g.s1
  have big : 1100 < bigN := by unfold bigN; decide
  show ∃ σ', _ ∧ _ ∧ _ ∧ whileN (mTB (mOp dNotN (mVar 28) (mC .non))) trBody bigN σ h = _
  unfold triesL
  unfold sfD at v28
  by_cases q : p < P.floor
  · rw [if_pos q] at v28 ⊢
    refine ⟨σ, W, fun _ _ => rfl, v27, ?_⟩
    rw [show bigN = (bigN - 1) + 1 by omega, while_end (h1 := h) (by simp [v28, dNotN, isN])]
  · rw [if_neg q] at v28 ⊢
    have b1 := Fc_bd g (Int.le_refl P.floor)
    have b0 := Fc_nn g p
    have b2 := Fc_mono g (by omega : P.floor ≤ p)
    exact tr_while g c 1100 (Fc P p) bigN [] σ W b0 (by omega) (by omega) big (by decide) v27 v28
theorem heres_ge (g : Gd P) : ∀ (k : Nat) (t : Int), (∀ x ∈ heres P k t, t ≤ x) ∧ (heres P k t).Pairwise (· < ·)
  | 0, t => by simp [heres]
  | k + 1, t => by
    have s1 := g.s1
    unfold heres
    by_cases q : t < Fc P P.floor
    · rw [if_pos q]
      obtain ⟨a, b⟩ := heres_ge g k (t + P.secs)
      refine ⟨fun x hx => ?_, List.pairwise_cons.mpr ⟨fun x hx => ?_, b⟩⟩
      · rcases List.mem_cons.mp hx with rfl | hx
        · exact Int.le_refl _
        · have := a x hx; omega
      · have := a x hx; omega
    · rw [if_neg q]
      simp
theorem best_fold {p : Int} {cs : List (Int × Int)} : ∀ (ts : List Int) (b : Int × Int), (∀ t ∈ ts, b.2 < t) → ts.Pairwise (· < ·) → ts.foldl (upB P p cs) (some b) = some (-(leastP (-b.1, b.2) (ts.map (tryE P p cs))).1, (leastP (-b.1, b.2) (ts.map (tryE P p cs))).2)
  | [], b, _, _ => by simp [leastP]
  | t :: ts, b, hb, hp => by
    obtain ⟨p1, p2⟩ := List.pairwise_cons.mp hp
    have hbt := hb t (by simp)
    have te : tryE P p cs t = (-(gainV P p cs t), t) := by unfold tryE gainV; rw [Int.neg_mul]
    have lx : lexB (tryE P p cs t) (-b.1, b.2) = decide (b.1 < gainV P p cs t) := by
      rw [te]
      unfold lexB
      by_cases q1 : -(gainV P p cs t) = -b.1
      · have : ¬ b.1 < gainV P p cs t := by omega
        have : ¬ t < b.2 := by omega
        simp [q1, *]
      · by_cases q2 : b.1 < gainV P p cs t
        · simp [q1, q2]
        · simp [q1, q2]
    have ls : leastP (-b.1, b.2) ((t :: ts).map (tryE P p cs)) = leastP (if lexB (tryE P p cs t) (-b.1, b.2) = true then tryE P p cs t else (-b.1, b.2)) (ts.map (tryE P p cs)) := rfl
    rw [List.foldl_cons, ls, lx]
    have e1 : upB P p cs (some b) t = if b.1 < gainV P p cs t then some (gainV P p cs t, t) else some b := rfl
    rw [e1]
    by_cases q : b.1 < gainV P p cs t
    · rw [if_pos q, if_pos (decide_eq_true q), te]
      exact best_fold ts (gainV P p cs t, t) p1 p2
    · rw [if_neg q, if_neg (by simp [q])]
      exact best_fold ts b (fun x hx => hb x (by simp [hx])) p2
theorem best_eq (g : Gd P) {p : Int} {cs : List (Int × Int)} : bestV P p cs = match triesL P p cs with | [] => none | q :: qs => some (-(leastP q qs).1, (leastP q qs).2) := by
  unfold bestV triesL
  by_cases q : p < P.floor
  · rw [if_pos q, if_pos q]
  · rw [if_neg q, if_neg q]
    obtain ⟨a, b⟩ := heres_ge g 1100 (Fc P p)
    generalize hh : heres P 1100 (Fc P p) = hs at *
    cases hs with
    | nil => rfl
    | cons t ts =>
      obtain ⟨p1, p2⟩ := List.pairwise_cons.mp b
      rw [List.foldl_cons]
      have e1 : upB P p cs none t = some (gainV P p cs t, t) := rfl
      rw [e1, best_fold ts _ p1 p2]
      have te : tryE P p cs t = (-(gainV P p cs t), t) := by unfold tryE gainV; rw [Int.neg_mul]
      rw [List.map_cons, te]
theorem min_prs (p : Int × Int) (ps : List (Int × Int)) (h : AH) : bMinG [.lst ((p :: ps).map pD)] h = .ok (pD (leastP p ps)) h := by
  have e1 : (getS h (.lst ((p :: ps).map pD))).bind intsD = none := rfl
  have e2 : (getL h (.lst ((p :: ps).map pD))).bind pairsD = some (p :: ps) := pairsD_map (p :: ps)
  simp only [bMinG, e1, e2]
theorem prs_nil (xs : List (Int × Int)) (h : AH) : dNe (.lst (xs.map pD)) (.lst []) h = .ok (.bl (!xs.isEmpty)) h :=
  dNe_lst_nil (f := fun b => PyData.tuple [.int b.1, .int b.2]) fun b hb => rfl
theorem dNe_fd (b : Option (Int × Int)) (h : AH) : dNe (fdD b) (fdD b) h = .ok (.bl false) h := by
  cases b with
  | none => exact dNe_non h
  | some b => simp [fdD, pD, dNe, dEqB, toP, allS, PyData.eqv, PyData.eqvAll]
theorem s23 (g : Gd P) (H : Hh P h n nt T now) {p : Int} {cs : List (Int × Int)} (c : GC cs) (W : Tw σ P n p cs) (v27 : σ[27]? = some (some (.lst ((triesL P p cs).map pD)))) : lawS23 σ h = .ok (.nx σ) h := by
  unfold lawS23
  refine if_no ?_
  have m1 : mCall (fun xs => f_best_second (xs ++ [])) (mCons (mVar 7) (mCons (mVar 17) (mCons (mVar 26) (mNil)))) σ h = .ok (fdD (bestV P p cs)) h := by
    have := best_ok g H.fo c p
    simp only [mCall_d, mCons_d, mVar_d, W.E.v7, W.v17, W.v26, bindR_okS, mNil_d, List.append_nil, this]
  have m2 : mIf (mTB (mOp dNe (mVar 27) (mLst false (mNil)))) (mTup (mCons (mNeg (mOp ixD (mCB bMinG (mCons (mVar 27) (mNil))) (mC (.int 0)))) (mCons (mOp ixD (mCB bMinG (mCons (mVar 27) (mNil))) (mC (.int 1))) (mNil)))) (mC .non) σ h = .ok (fdD (bestV P p cs)) h := by
    rw [best_eq g]
    have ne := prs_nil (triesL P p cs) h
    cases e : triesL P p cs with
    | nil =>
      rw [e] at v27 ne
      have ne : dNe (.lst []) (.lst []) h = .ok (.bl false) h := ne
      have v27 : σ[27]? = some (some (.lst [])) := v27
      simp [v27, ne, line3', fdD]
    | cons q qs =>
      rw [e] at v27 ne
      have mp := min_prs q qs h
      have ne : dNe (.lst ((q :: qs).map pD)) (.lst []) h = .ok (.bl true) h := ne
      generalize hL : D.lst ((q :: qs).map pD) = L at *
      dsimp only
      generalize leastP q qs = m at *
      have i0 : ixD (pD m) (.int 0) h = .ok (.int m.1) h := ix_tup2 (n := 0) rfl rfl
      have i1 : ixD (pD m) (.int 1) h = .ok (.int m.2) h := ix_tup2 (n := 1) rfl rfl
      simp [v27, ne, mp, i0, i1, line3', fdD]
      rfl
  rw [mTB_d, mOp_d, m1, bindR_okS, m2, bindR_okS, dNe_fd]
  rfl
theorem s24 (g : Gd P) (H : Hh P h n nt T now) (E : En σ P n) (hw : GW ws) {s : Int} (h0 : 0 ≤ s) (h1 : s ≤ 90) (v9 : σ[9]? = some (some (prD P))) (v21 : σ[21]? = some (some (.lst (ws.map wD)))) (v24 : σ[24]? = some (some (.int s))) : lawS24 σ h = .ok (.nx σ) h := by
  unfold lawS24
  refine if_no ?_
  have ne := dNe_lst_nil (enc := wD) (f := fun w => PyData.tuple [.str w.1, .int w.2.1, .int w.2.2]) (h := h) (xs := ws) (fun w hx => by simp [wD, toP, allS, nm_ok (hw.2 w hx).1])
  have n1 : mTB (mOp dNe (mVar 21) (mLst false (mNil))) σ h = .ok (!ws.isEmpty) h := by
    have l0 : mLst false (mNil) σ h = .ok (.lst []) h := by simp [line3']
    rw [mTB_d, mOp_d, mVar_d, v21]
    dsimp only
    rw [bindR_okS, l0, bindR_okS, ne]
    rfl
  rw [mAnd_d, n1, bindR_okS]
  cases ws with
  | nil => rfl
  | cons w r =>
    obtain ⟨k1, k2, k3⟩ := hw.2 w (by simp)
    have ix : ixD (.lst ((w :: r).map wD)) (.int 0) h = .ok (wD w) h := ix_lst2 (n := 0) rfl rfl
    have ip := ix_pr (P := P) h0 (by omega : s < 1200) h
    have gk := gain_ok g H.fo (who := w.1) (m := w.2.1) (p := w.2.2) h0 (by omega) (by omega)
    have gk : f_gain_of [.ref n, wD w, .int s] h = .ok (.int (w.2.1 * (w.2.2 - Pt P s))) h := gk
    rw [if_pos (by rfl)]
    have m1 : mCall (fun xs => f_gain_of (xs ++ [])) (mCons (mVar 7) (mCons (mOp ixD (mVar 21) (mC (.int 0))) (mCons (mVar 24) (mNil)))) σ h = .ok (.int (w.2.1 * (w.2.2 - Pt P s))) h := by
      simp only [mCall_d, mCons_d, mVar_d, E.v7, mOp_d, v21, bindR_okS, mC_d, ix, v24, mNil_d, List.append_nil, gk]
    rw [mTB_d, mOp_d, m1, bindR_okS]
    generalize hL : D.lst ((w :: r).map wD) = L at *
    simp [v21, ix, ix_w1, ix_w2, v9, v24, ip, dMinus_int, dMul_int (cmul_left (by omega) (by omega) : CMul w.2.1 (w.2.2 - Pt P s)), dNe_int]
theorem s7 (E : En σ P n) (H : Hh P h n nt T now) : ∃ (p : Int) (h' : AH), Hh P h' n nt T now ∧ lawS7 σ h = .ok (.nx (σ.set 17 (some (.int p)))) h' := by
  obtain ⟨k, h1, a1, a2, H1, e1⟩ := H.roll 180 (by omega) (by omega)
  refine ⟨k, h1, H1, ?_⟩
  unfold lawS7
  refine asg_nx ?_
  simp [E.v1, e1]
theorem body_ok (hl : σ.length = 33) (d : Dh h) (v1 : σ[1]? = some (some (.ref 0))) : ∃ σ' h', lawB σ h = .ok (.nx σ') h' := by
  obtain ⟨P, n, nt, h1, τ, g, H1, E1, v8, r1⟩ := s123 hl d v1
  unfold lawB
  rw [r1]
  clear r1 hl d v1
  rw [seq_nx (s4 g E1)]
  have E2 : En (τ.set 9 (some (prD P))) P n := E1.set (by decide)
  have a8 : (τ.set 9 (some (prD P)))[8]? = some (some (.lst [])) := by rw [List.getElem?_set_ne (by decide), v8]
  have a9 : (τ.set 9 (some (prD P)))[9]? = some (some (prD P)) := get_set E1.hl (by decide)
  generalize τ.set 9 (some (prD P)) = τ2 at *
  have e5 : lawS5 τ2 h1 = .ok (.nx (τ2.set 10 (some (.int 0)))) h1 := asg_nx rfl
  rw [seq_nx e5]
  obtain ⟨T, now, σ3, h2, E3, H2, hT, w, n0, b8, b9, e6⟩ := s6 (σ := τ2.set 10 (some (.int 0))) g (E2.set (by decide)) H1 (by rw [List.getElem?_set_ne (by decide), a8]) (by rw [List.getElem?_set_ne (by decide), a9]) (get_set E2.hl (by decide))
  rw [seq_nx e6]
  clear e5 e6 a8 a9 v8 E1 E2
  obtain ⟨p, h3, H3, e7⟩ := s7 E3 H2
  rw [seq_nx e7]
  have E4 : En (σ3.set 17 (some (.int p))) P n := E3.set (by decide)
  have c8 : (σ3.set 17 (some (.int p)))[8]? = some (some (.lst (T.map tD))) := by rw [List.getElem?_set_ne (by decide), b8]
  have c9 : (σ3.set 17 (some (.int p)))[9]? = some (some (prD P)) := by rw [List.getElem?_set_ne (by decide), b9]
  have c17 : (σ3.set 17 (some (.int p)))[17]? = some (some (.int p)) := get_set E3.hl (by decide)
  generalize σ3.set 17 (some (.int p)) = σ4 at *
  clear e7 b8 b9 E3 H2
  rw [seq_nx (s8 (h := h3) E4 c9 c17)]
  have E5 : En (σ4.set 18 (some (ableD P p))) P n := E4.set (by decide)
  have d8 : (σ4.set 18 (some (ableD P p)))[8]? = some (some (.lst (T.map tD))) := by rw [List.getElem?_set_ne (by decide), c8]
  have d9 : (σ4.set 18 (some (ableD P p)))[9]? = some (some (prD P)) := by rw [List.getElem?_set_ne (by decide), c9]
  have d17 : (σ4.set 18 (some (ableD P p)))[17]? = some (some (.int p)) := by rw [List.getElem?_set_ne (by decide), c17]
  have d18 : (σ4.set 18 (some (ableD P p)))[18]? = some (some (ableD P p)) := get_set E4.hl (by decide)
  generalize σ4.set 18 (some (ableD P p)) = σ5 at *
  clear E4 c8 c9 c17
  rw [seq_nx (s9 g E5 H3 d9), seq_nx (s10 g E5 H3 d9 d17 d18), seq_nx (s11 (h := h3) E5 hT d8)]
  have E6 : En (σ5.set 19 (some (.lst ((nmL T).map D.str)))) P n := E5.set (by decide)
  have f8 : (σ5.set 19 (some (.lst ((nmL T).map D.str))))[8]? = some (some (.lst (T.map tD))) := by rw [List.getElem?_set_ne (by decide), d8]
  have f9 : (σ5.set 19 (some (.lst ((nmL T).map D.str))))[9]? = some (some (prD P)) := by rw [List.getElem?_set_ne (by decide), d9]
  have f17 : (σ5.set 19 (some (.lst ((nmL T).map D.str))))[17]? = some (some (.int p)) := by rw [List.getElem?_set_ne (by decide), d17]
  have f18 : (σ5.set 19 (some (.lst ((nmL T).map D.str))))[18]? = some (some (ableD P p)) := by rw [List.getElem?_set_ne (by decide), d18]
  have f19 : (σ5.set 19 (some (.lst ((nmL T).map D.str))))[19]? = some (some (.lst ((nmL T).map D.str))) := get_set E5.hl (by decide)
  generalize σ5.set 19 (some (.lst ((nmL T).map D.str))) = σ6 at *
  clear E5 d8 d9 d17 d18
  rw [seq_nx (s12 (h := h3) E6 hT w f8 f19)]
  have E7 : En (σ6.set 20 (some (.lst ((nmL T).map (paidE T))))) P n := E6.set (by decide)
  have g8 : (σ6.set 20 (some (.lst ((nmL T).map (paidE T)))))[8]? = some (some (.lst (T.map tD))) := by rw [List.getElem?_set_ne (by decide), f8]
  have g9 : (σ6.set 20 (some (.lst ((nmL T).map (paidE T)))))[9]? = some (some (prD P)) := by rw [List.getElem?_set_ne (by decide), f9]
  have g17 : (σ6.set 20 (some (.lst ((nmL T).map (paidE T)))))[17]? = some (some (.int p)) := by rw [List.getElem?_set_ne (by decide), f17]
  have g18 : (σ6.set 20 (some (.lst ((nmL T).map (paidE T)))))[18]? = some (some (ableD P p)) := by rw [List.getElem?_set_ne (by decide), f18]
  have g20 : (σ6.set 20 (some (.lst ((nmL T).map (paidE T)))))[20]? = some (some (.lst ((nmL T).map (paidE T)))) := get_set E6.hl (by decide)
  generalize σ6.set 20 (some (.lst ((nmL T).map (paidE T)))) = σ7 at *
  clear E6 f8 f9 f17 f18 f19
  obtain ⟨h4, H4, e13⟩ := s13 g E7 H3 hT w g8 g20
  rw [seq_nx e13]
  obtain ⟨ws, h5, hw, H5, e14⟩ := s14 E7 H4
  rw [seq_nx e14]
  have E8 : En (σ7.set 21 (some (.lst (ws.map wD)))) P n := E7.set (by decide)
  rw [seq_nx (s15 (h := h5) E8)]
  have E9 : En (((σ7.set 21 (some (.lst (ws.map wD)))).set 22 (some (.lst []))).set 15 (some (.int P.many))) P n := (E8.set (by decide)).set (by decide)
  have i9 : (((σ7.set 21 (some (.lst (ws.map wD)))).set 22 (some (.lst []))).set 15 (some (.int P.many)))[9]? = some (some (prD P)) := by rw [List.getElem?_set_ne (by decide), List.getElem?_set_ne (by decide), List.getElem?_set_ne (by decide), g9]
  have i17 : (((σ7.set 21 (some (.lst (ws.map wD)))).set 22 (some (.lst []))).set 15 (some (.int P.many)))[17]? = some (some (.int p)) := by rw [List.getElem?_set_ne (by decide), List.getElem?_set_ne (by decide), List.getElem?_set_ne (by decide), g17]
  have i18 : (((σ7.set 21 (some (.lst (ws.map wD)))).set 22 (some (.lst []))).set 15 (some (.int P.many)))[18]? = some (some (ableD P p)) := by rw [List.getElem?_set_ne (by decide), List.getElem?_set_ne (by decide), List.getElem?_set_ne (by decide), g18]
  have i21 : (((σ7.set 21 (some (.lst (ws.map wD)))).set 22 (some (.lst []))).set 15 (some (.int P.many)))[21]? = some (some (.lst (ws.map wD))) := by rw [List.getElem?_set_ne (by decide), List.getElem?_set_ne (by decide), get_set E7.hl (by decide)]
  have i22 : (((σ7.set 21 (some (.lst (ws.map wD)))).set 22 (some (.lst []))).set 15 (some (.int P.many)))[22]? = some (some (.lst [])) := by rw [List.getElem?_set_ne (by decide), get_set E8.hl (by decide)]
  have i15 : (((σ7.set 21 (some (.lst (ws.map wD)))).set 22 (some (.lst []))).set 15 (some (.int P.many)))[15]? = some (some (.int P.many)) := get_set (by simp [E8.hl]) (by decide)
  generalize ((σ7.set 21 (some (.lst (ws.map wD)))).set 22 (some (.lst []))).set 15 (some (.int P.many)) = σ8 at *
  clear E7 E8 g8 g9 g17 g18 g20 e13 e14
  rw [seq_nx (s16 (h := h5) g E9 hw i9 i21)]
  have EA : En (σ8.set 23 (some (.lst ((sP (rowsL P (enumL 0 ws))).map pD)))) P n := E9.set (by decide)
  have j9 : (σ8.set 23 (some (.lst ((sP (rowsL P (enumL 0 ws))).map pD))))[9]? = some (some (prD P)) := by rw [List.getElem?_set_ne (by decide), i9]
  have j17 : (σ8.set 23 (some (.lst ((sP (rowsL P (enumL 0 ws))).map pD))))[17]? = some (some (.int p)) := by rw [List.getElem?_set_ne (by decide), i17]
  have j18 : (σ8.set 23 (some (.lst ((sP (rowsL P (enumL 0 ws))).map pD))))[18]? = some (some (ableD P p)) := by rw [List.getElem?_set_ne (by decide), i18]
  have j21 : (σ8.set 23 (some (.lst ((sP (rowsL P (enumL 0 ws))).map pD))))[21]? = some (some (.lst (ws.map wD))) := by rw [List.getElem?_set_ne (by decide), i21]
  have j22 : (σ8.set 23 (some (.lst ((sP (rowsL P (enumL 0 ws))).map pD))))[22]? = some (some (.lst [])) := by rw [List.getElem?_set_ne (by decide), i22]
  have j15 : (σ8.set 23 (some (.lst ((sP (rowsL P (enumL 0 ws))).map pD))))[15]? = some (some (.int P.many)) := by rw [List.getElem?_set_ne (by decide), i15]
  have j23 : (σ8.set 23 (some (.lst ((sP (rowsL P (enumL 0 ws))).map pD))))[23]? = some (some (.lst ((sP (rowsL P (enumL 0 ws))).map pD))) := get_set E9.hl (by decide)
  generalize σ8.set 23 (some (.lst ((sP (rowsL P (enumL 0 ws))).map pD))) = σ9 at *
  clear E9 i9 i17 i18 i21 i22 i15
  obtain ⟨σA, EB, jA, k22, e17⟩ := s17 (h := h5) g EA hw j9 j21 j22 j15 j23
  rw [seq_nx e17]
  have k9 : σA[9]? = some (some (prD P)) := by rw [jA 9 (by decide), j9]
  have k17 : σA[17]? = some (some (.int p)) := by rw [jA 17 (by decide), j17]
  have k18 : σA[18]? = some (some (ableD P p)) := by rw [jA 18 (by decide), j18]
  have k21 : σA[21]? = some (some (.lst (ws.map wD))) := by rw [jA 21 (by decide), j21]
  clear EA j9 j17 j18 j21 j22 j15 j23 jA e17
  obtain ⟨h6, H6, e18⟩ := s18 g EB H5 hw k21 k22
  rw [seq_nx e18, seq_nx (s19 (h := h6))]
  have EC : En ((σA.set 26 (some (.lst []))).set 24 (some (.int 0))) P n := (EB.set (by decide)).set (by decide)
  have l9 : ((σA.set 26 (some (.lst []))).set 24 (some (.int 0)))[9]? = some (some (prD P)) := by rw [List.getElem?_set_ne (by decide), List.getElem?_set_ne (by decide), k9]
  have l17 : ((σA.set 26 (some (.lst []))).set 24 (some (.int 0)))[17]? = some (some (.int p)) := by rw [List.getElem?_set_ne (by decide), List.getElem?_set_ne (by decide), k17]
  have l18 : ((σA.set 26 (some (.lst []))).set 24 (some (.int 0)))[18]? = some (some (ableD P p)) := by rw [List.getElem?_set_ne (by decide), List.getElem?_set_ne (by decide), k18]
  have l21 : ((σA.set 26 (some (.lst []))).set 24 (some (.int 0)))[21]? = some (some (.lst (ws.map wD))) := by rw [List.getElem?_set_ne (by decide), List.getElem?_set_ne (by decide), k21]
  have l24 : ((σA.set 26 (some (.lst []))).set 24 (some (.int 0)))[24]? = some (some (.int 0)) := get_set (by simp [EB.hl]) (by decide)
  have l26 : ((σA.set 26 (some (.lst []))).set 24 (some (.int 0)))[26]? = some (some (.lst [])) := by rw [List.getElem?_set_ne (by decide), get_set EB.hl (by decide)]
  generalize (σA.set 26 (some (.lst []))).set 24 (some (.int 0)) = σB at *
  clear EB k9 k17 k18 k21 k22 e18
  obtain ⟨cs, s, σC, h7, ED, H7, gc, q0, q1, jC, m24, m26, e20⟩ := s20 EC H6 l24 l26
  rw [seq_nx e20]
  have m9 : σC[9]? = some (some (prD P)) := by rw [jC 9 (by decide), l9]
  have m17 : σC[17]? = some (some (.int p)) := by rw [jC 17 (by decide), l17]
  have m18 : σC[18]? = some (some (ableD P p)) := by rw [jC 18 (by decide), l18]
  have m21 : σC[21]? = some (some (.lst (ws.map wD))) := by rw [jC 21 (by decide), l21]
  clear EC l9 l17 l18 l21 l24 l26 jC e20
  rw [seq_nx (s21 (h := h7) g m18)]
  have W0 : Tw ((σC.set 27 (some (.lst []))).set 28 (some (sfD P p))) P n p cs := ((⟨ED, m9, m17, m26⟩ : Tw σC P n p cs).set (by decide) (by decide)).set (by decide) (by decide)
  have n21 : ((σC.set 27 (some (.lst []))).set 28 (some (sfD P p)))[21]? = some (some (.lst (ws.map wD))) := by rw [List.getElem?_set_ne (by decide), List.getElem?_set_ne (by decide), m21]
  have n24 : ((σC.set 27 (some (.lst []))).set 28 (some (sfD P p)))[24]? = some (some (.int s)) := by rw [List.getElem?_set_ne (by decide), List.getElem?_set_ne (by decide), m24]
  have n27 : ((σC.set 27 (some (.lst []))).set 28 (some (sfD P p)))[27]? = some (some (.lst [])) := by rw [List.getElem?_set_ne (by decide), get_set ED.hl (by decide)]
  have n28 : ((σC.set 27 (some (.lst []))).set 28 (some (sfD P p)))[28]? = some (some (sfD P p)) := get_set (by simp [ED.hl]) (by decide)
  generalize (σC.set 27 (some (.lst []))).set 28 (some (sfD P p)) = σD at *
  clear ED m9 m17 m18 m21 m24 m26
  obtain ⟨σE, W1, jE, o27, e22⟩ := s22 (h := h7) g gc W0 n27 n28
  rw [seq_nx e22, seq_nx (s23 g H7 gc W1 o27)]
  exact ⟨_, _, s24 g H7 W1.E hw q0 q1 W1.v9 (by rw [jE 21 (by decide), n21]) (by rw [jE 24 (by decide), n24])⟩
theorem law_ok : Plain 63 f_law := by
  intro ns _ _
  obtain ⟨a, b, m, er⟩ := rounds_ok ns
  obtain ⟨hp, ep⟩ := plain_ok
  have hl : (startA 33 [D.scr ns]).length = 33 := rfl
  have v0 : (startA 33 [D.scr ns])[0]? = some (some (.scr ns)) := rfl
  obtain ⟨σ', h', eb⟩ := body_ok (σ := (startA 33 [D.scr ns]).set 1 (some (.ref 0))) (h := [some (.lst [.int a, .int b, .int m])]) (by rw [List.length_set]; exact hl) ⟨a, b, m, rfl⟩ rfl
  have lp := sFor_eq (mi := miLT (mCall (fun xs => f_law_rounds (xs ++ [])) (mCons (mVar 0) (mCons (mC (.int 1)) (mNil))))) (mg := gmName 1) (s := lawB) (σ := startA 33 [D.scr ns]) (h := []) (h1 := [some (.lst [.int a, .int b, .int m])]) (it := itOf (.lst [.ref 0])) (ds := [.ref 0]) (by simp [v0, er, itLT, getL]) (itIs_lst _) (big3 (by simp))
  rw [forL, gmName_d] at lp
  dsimp only at lp
  rw [eb, loopS_nx, forL_nil] at lp
  refine ⟨List.replicate h'.length none, ?_⟩
  unfold f_law
  refine runF_rt ?_
  rw [m_law_eq]
  show sSeq _ _ (startA 33 [D.scr ns]) [] = _
  rw [seq_nx lp]
  refine ret_rt ?_
  unfold mCallN
  rw [ep]
end K04
end
theorem PySem.Challenge.cw_auctionstack_k04_prices_that_fall_holds : PySem.Challenge.rw_auctionstack_k04_prices_that_fall.Holds := by
  exact K04.finish K04.law_ok

