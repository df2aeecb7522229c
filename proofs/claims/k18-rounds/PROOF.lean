import PyProof.Rows.All
import Wide.All
import OpenK.AllK
import Wide.FinOn
import HandS.ForMost
import HandS.Wide
import HandS.TupAny
import HandS.Walk
import HandS.Zip
import HandS.Flow
import HandS.Style
import KE.GoesNew
import HandS.IsInst
import HandS.TupMul
import HandS.Conv
import HandS.Star
import KE.KDictZip
import PyProof.ListNew
import HandS.WideBits
import PyProof.Rows.NestShow
import HandS.Dict
import HandS.Deep
import KE.KTupSum
import HandS.NoneIn
import HandS.RevTup
import KE.KStar
import PyProof.ReprRoads
import PySem.Challenge.RW_askedfew_k18_rounds_as_anybody_tells_the
set_option Elab.async false
set_option linter.all false
set_option maxRecDepth 100000
set_option maxHeartbeats 4000000
/-! DL: a layer of plain data over the hand layer: tuples by value, lists by address in a heap of data. -/
namespace DL
open PySem PySem.Spec L2
open PyProof.Rows hiding St

inductive D where
  | non | bl (b : Bool) | int (i : Int) | str (x : Str) | ty (n : String) | tup (ds : List D) | rol (ds : List D) | ref (a : Addr)

/-- a list that stands: the script, locked or of the written part -/
def SqR (K : PySem.W.Frag) (H : Hp) (a : Addr) (xs : List V) : Prop := (∃ o, H a = some (.frz o (.lst xs))) ∨ SqL K (fun _ => none) a xs
theorem SqR.sql {K : PySem.W.Frag} {H : Hp} {a : Addr} {xs : List V} (q : SqR K H a xs) : SqL K H a xs := by
  rcases q with q | q
  · exact .inl (.inr q)
  · rcases q with (q | ⟨_, q⟩) | q
    · cases q
    · cases q
    · exact .inr q
mutual
def Rep (K : PySem.W.Frag) (H : Hp) : D → V → Prop
  | .non, v => v = .non
  | .bl b, v => v = .bl b
  | .int i, v => v = .int i
  | .str x, v => v = .str x
  | .ref a, v => v = .ref a
  | .ty n, v => v = .ty n
  | .rol ds, v => ∃ a vs, v = .ref a ∧ SqR K H a vs ∧ Reps K H ds vs
  | .tup ds, v => ∃ a vs, v = .ref a ∧ SqT K H a vs ∧ Reps K H ds vs
def Reps (K : PySem.W.Frag) (H : Hp) : List D → List V → Prop
  | [], vs => vs = []
  | d :: ds, vs => ∃ v r, vs = v :: r ∧ Rep K H d v ∧ Reps K H ds r
end

inductive DO where
  | lst (ds : List D) | dct (kvs : List (Key × D)) | dctT (kvs : List (List Key × D)) | ins (C dx : Addr) (fs : List (Str × D))

abbrev DH := Addr → Option DO

def KReps (K : PySem.W.Frag) (H : Hp) {κ : Type} : List (κ × D) → List (κ × V) → Prop
  | [], vs => vs = []
  | p :: ds, vs => ∃ v r, vs = (p.1, v) :: r ∧ Rep K H p.2 v ∧ KReps K H ds r

def HOR (K : PySem.W.Frag) (H : Hp) : DO → HO → Prop
  | .lst ds, .lst vs => Reps K H ds vs
  | .dct kvs, .dK vvs => KReps K H kvs vvs
  | .dctT kvs, .dT vvs => KReps K H kvs vvs
  | .ins C dx fs, .ins C' dx' gs => C = C' ∧ dx = dx' ∧ KReps K H fs gs
  | _, _ => False

def HR (K : PySem.W.Frag) (H : Hp) (h : DH) : Prop := ∀ a o, h a = some o → ∃ u, H a = some u ∧ HOR K H o u

def updD (h : DH) (a : Addr) (o : DO) : DH := fun b => if b = a then some o else h b
theorem updD_same {h : DH} {a : Addr} {o : DO} : updD h a o a = some o := by unfold updD; rw [if_pos rfl]
theorem updD_ne {h : DH} {a b : Addr} {o : DO} (e : b ≠ a) : updD h a o b = h b := by unfold updD; rw [if_neg e]

/-- what stands for good -/
def Fix : HO → Prop
  | .tup _ => True
  | .frz _ _ => True
  | _ => False
/-- tuples stand, and what is locked -/
def TupMono (H H' : Hp) : Prop := ∀ a u, H a = some u → Fix u → H' a = some u
theorem TupMono.refl (H : Hp) : TupMono H H := fun _ _ q _ => q
theorem TupMono.trans {H H1 H2 : Hp} (a : TupMono H H1) (b : TupMono H1 H2) : TupMono H H2 := fun c u q f => b c u (a c u q f) f
theorem TupMono.sqt {K : PySem.W.Frag} {H H' : Hp} (t : TupMono H H') {a : Addr} {xs : List V} (q : SqT K H a xs) : SqT K H' a xs := by
  rcases q with (q | ⟨o, q⟩) | q
  · exact .inl (.inl (t a _ q trivial))
  · exact .inl (.inr ⟨o, t a _ q trivial⟩)
  · exact .inr q
theorem TupMono.sqr {K : PySem.W.Frag} {H H' : Hp} (t : TupMono H H') {a : Addr} {xs : List V} (q : SqR K H a xs) : SqR K H' a xs := by
  rcases q with ⟨o, q⟩ | q
  · exact .inl ⟨o, t a _ q trivial⟩
  · exact .inr q
mutual
theorem Rep.mono {K : PySem.W.Frag} {H H' : Hp} (t : TupMono H H') : ∀ {d : D} {v : V}, Rep K H d v → Rep K H' d v
  | .non, _, q => by simpa [Rep] using q
  | .bl _, _, q => by simpa [Rep] using q
  | .int _, _, q => by simpa [Rep] using q
  | .str _, _, q => by simpa [Rep] using q
  | .ref _, _, q => by simpa [Rep] using q
  | .ty _, _, q => by simpa [Rep] using q
  | .rol _, _, q => by
    unfold Rep at q ⊢
    obtain ⟨a, vs, e, s, r⟩ := q
    exact ⟨a, vs, e, t.sqr s, Reps.mono t r⟩
  | .tup _, _, q => by
    unfold Rep at q ⊢
    obtain ⟨a, vs, e, s, r⟩ := q
    exact ⟨a, vs, e, t.sqt s, Reps.mono t r⟩
theorem Reps.mono {K : PySem.W.Frag} {H H' : Hp} (t : TupMono H H') : ∀ {ds : List D} {vs : List V}, Reps K H ds vs → Reps K H' ds vs
  | [], _, q => by simpa [Reps] using q
  | _ :: _, _, q => by
    unfold Reps at q ⊢
    obtain ⟨v, r, e, a, b⟩ := q
    exact ⟨v, r, e, Rep.mono t a, Reps.mono t b⟩
end
theorem KReps.mono {K : PySem.W.Frag} {H H' : Hp} (t : TupMono H H') {κ : Type} : ∀ {ds : List (κ × D)} {vs : List (κ × V)}, KReps K H ds vs → KReps K H' ds vs
  | [], _, q => by simpa [KReps] using q
  | _ :: _, _, q => by
    unfold KReps at q ⊢
    obtain ⟨v, r, e, a, b⟩ := q
    exact ⟨v, r, e, Rep.mono t a, KReps.mono t b⟩
theorem HOR.mono {K : PySem.W.Frag} {H H' : Hp} (t : TupMono H H') : ∀ {o : DO} {u : HO}, HOR K H o u → HOR K H' o u := by
  intro o u q
  unfold HOR at q ⊢
  split at q
  · exact Reps.mono t q
  · exact KReps.mono t q
  · exact KReps.mono t q
  · exact ⟨q.1, q.2.1, KReps.mono t q.2.2⟩
  · exact q.elim
theorem HOR.nofix {K : PySem.W.Frag} {H : Hp} {o : DO} {u : HO} (q : HOR K H o u) (f : Fix u) : False := by
  cases u with
  | tup _ => cases o <;> exact q
  | frz _ _ => cases o <;> exact q
  | _ => exact f
/-- what is told of an address in the heap of data is no tuple -/
theorem HR.nofix {K : PySem.W.Frag} {H : Hp} {h : DH} (r : HR K H h) {a : Addr} {u : HO} (q : H a = some u) (f : Fix u) : h a = none := by
  cases e : h a with
  | none => rfl
  | some o =>
    obtain ⟨u', hu, w⟩ := r a o e
    rw [q] at hu; cases hu
    exact (w.nofix f).elim

/-- what is tracked beside the heap of data stands -/
def Keep (h : DH) (H : Hp) (h' : DH) (H' : Hp) : Prop := ∀ a o, H a = some o → h a = none → H' a = some o ∧ h' a = none
theorem Keep.refl {h : DH} {H : Hp} : Keep h H h H := fun _ _ q n => ⟨q, n⟩
theorem Keep.trans {h h1 h2 : DH} {H H1 H2 : Hp} (a : Keep h H h1 H1) (b : Keep h1 H1 h2 H2) : Keep h H h2 H2 := fun c o q n => by
  obtain ⟨x, y⟩ := a c o q n
  exact b c o x y
theorem Keep.tup {K : PySem.W.Frag} {h h' : DH} {H H' : Hp} (r : HR K H h) (k : Keep h H h' H') : TupMono H H' := fun a u q f => (k a u q (r.nofix q f)).1

theorem HR.none {K : PySem.W.Frag} {H : Hp} {h : DH} (r : HR K H h) {a : Addr} (q : H a = Option.none) : h a = Option.none := by
  cases e : h a with
  | none => rfl
  | some o =>
    obtain ⟨u, hu, _⟩ := r a o e
    rw [q] at hu; cases hu
theorem tupMono_new {H : Hp} {p : Addr} {u : HO} (n : H p = none) : TupMono H (upd H p u) := fun a w q _ => by
  have ne : a ≠ p := by rintro rfl; rw [n] at q; cases q
  rw [upd_ne ne]; exact q
theorem tupMono_put {K : PySem.W.Frag} {H : Hp} {h : DH} {p : Addr} {u : HO} {o : DO} (r : HR K H h) (e : h p = some o) : TupMono H (upd H p u) := fun a w q f => by
  have ne : a ≠ p := by rintro rfl; rw [r.nofix q f] at e; cases e
  rw [upd_ne ne]; exact q
/-- a new thing that is not told -/
theorem HR.hid {K : PySem.W.Frag} {H : Hp} {h : DH} (r : HR K H h) {p : Addr} {u : HO} (n : H p = Option.none) : HR K (upd H p u) h := fun a o e => by
  obtain ⟨w, hw, q⟩ := r a o e
  have ne : a ≠ p := by rintro rfl; rw [n] at hw; cases hw
  exact ⟨w, by rw [upd_ne ne]; exact hw, q.mono (tupMono_new n)⟩
/-- a new thing that is told -/
theorem HR.new {K : PySem.W.Frag} {H : Hp} {h : DH} (r : HR K H h) {p : Addr} {u : HO} {o : DO} (n : H p = Option.none) (q : HOR K H o u) : HR K (upd H p u) (updD h p o) := fun a o' e => by
  by_cases ea : a = p
  · subst ea
    rw [updD_same] at e; cases e
    exact ⟨u, upd_same, q.mono (tupMono_new n)⟩
  · rw [updD_ne ea] at e
    obtain ⟨w, hw, q'⟩ := r a o' e
    exact ⟨w, by rw [upd_ne ea]; exact hw, q'.mono (tupMono_new n)⟩
/-- what is told changes -/
theorem HR.put {K : PySem.W.Frag} {H : Hp} {h : DH} (r : HR K H h) {p : Addr} {u : HO} {o o0 : DO} (e0 : h p = some o0) (q : HOR K H o u) : HR K (upd H p u) (updD h p o) := fun a o' e => by
  have tm : TupMono H (upd H p u) := tupMono_put r e0
  by_cases ea : a = p
  · subst ea
    rw [updD_same] at e; cases e
    exact ⟨u, upd_same, q.mono tm⟩
  · rw [updD_ne ea] at e
    obtain ⟨w, hw, q'⟩ := r a o' e
    exact ⟨w, by rw [upd_ne ea]; exact hw, q'.mono tm⟩
theorem Keep.hid {h : DH} {H : Hp} {p : Addr} {u : HO} (n : H p = none) : Keep h H h (upd H p u) := fun a o q m => by
  have ne : a ≠ p := by rintro rfl; rw [n] at q; cases q
  exact ⟨by rw [upd_ne ne]; exact q, m⟩
theorem Keep.new {h : DH} {H : Hp} {p : Addr} {u : HO} {o : DO} (n : H p = none) : Keep h H (updD h p o) (upd H p u) := fun a w q m => by
  have ne : a ≠ p := by rintro rfl; rw [n] at q; cases q
  exact ⟨by rw [upd_ne ne]; exact q, by rw [updD_ne ne]; exact m⟩
theorem Keep.put {h : DH} {H : Hp} {p : Addr} {u : HO} {o o0 : DO} (e0 : h p = some o0) : Keep h H (updD h p o) (upd H p u) := fun a w q m => by
  have ne : a ≠ p := by rintro rfl; rw [e0] at m; cases m
  exact ⟨by rw [upd_ne ne]; exact q, by rw [updD_ne ne]; exact m⟩
/-- part of the heap of data is forgotten -/
def Sub (h h' : DH) : Prop := ∀ a o, h a = some o → h' a = some o
theorem Sub.refl (h : DH) : Sub h h := fun _ _ q => q
theorem Sub.trans {h h1 h2 : DH} (a : Sub h h1) (b : Sub h1 h2) : Sub h h2 := fun c o q => b c o (a c o q)
theorem Sub.new {h h' : DH} {p : Addr} {o : DO} (s : Sub h h') (n : h' p = none) : Sub h (updD h' p o) := fun a w q => by
  have ne : a ≠ p := by rintro rfl; rw [s _ _ q] at n; cases n
  rw [updD_ne ne]; exact s a w q
theorem Sub.upd {h h' : DH} {p : Addr} {o : DO} (s : Sub h h') : Sub (updD h p o) (updD h' p o) := fun a w q => by
  by_cases e : a = p
  · subst e; rw [updD_same] at q ⊢; exact q
  · rw [updD_ne e] at q ⊢; exact s a w q
theorem HR.sub {K : PySem.W.Frag} {H : Hp} {h h' : DH} (r : HR K H h') (s : Sub h h') : HR K H h := fun a o e => r a o (s a o e)
theorem Keep.sub {h h' h'' : DH} {H H' : Hp} (k : Keep h H h' H') (s : Sub h'' h') : Keep h H h'' H' := fun a o q n => by
  obtain ⟨x, y⟩ := k a o q n
  refine ⟨x, ?_⟩
  cases e : h'' a with
  | none => rfl
  | some w => rw [s a w e] at y; cases y

/-! ### states -/
abbrev DS := List (Option D)
abbrev DK := D → DH → Prop
abbrev DTE := DS → DH → DK → Prop
abbrev DTT := DS → DH → (Bool → DH → Prop) → Prop
abbrev DTA := DS → DH → (List D → DH → Prop) → Prop
structure DEnds where
  nx : DS → DH → Prop
  rt : DK
  bk : DS → DH → Prop := fun _ _ => False
  ct : DS → DH → Prop := fun _ _ => False
abbrev DTS := DEnds → DS → DH → Prop

def ORep (K : PySem.W.Frag) (H : Hp) : Option D → Option V → Prop
  | none, _ => True
  | some d, some v => Rep K H d v
  | some _, none => False
def SRep (K : PySem.W.Frag) (H : Hp) : DS → St → Prop
  | [], σ => σ = []
  | d :: ds, σ => ∃ v r, σ = v :: r ∧ ORep K H d v ∧ SRep K H ds r
theorem ORep.mono {K : PySem.W.Frag} {H H' : Hp} (t : TupMono H H') : ∀ {d : Option D} {v : Option V}, ORep K H d v → ORep K H' d v
  | none, _, _ => trivial
  | some _, some _, q => Rep.mono t q
  | some _, none, q => q
theorem SRep.mono {K : PySem.W.Frag} {H H' : Hp} (t : TupMono H H') : ∀ {ds : DS} {σ : St}, SRep K H ds σ → SRep K H' ds σ
  | [], _, q => q
  | _ :: _, _, ⟨v, r, e, a, b⟩ => ⟨v, r, e, a.mono t, SRep.mono t b⟩
theorem SRep.get {K : PySem.W.Frag} {H : Hp} : ∀ {ds : DS} {σ : St} {i : Nat} {d : D}, SRep K H ds σ → ds[i]? = some (some d) → ∃ v, σ[i]? = some (some v) ∧ Rep K H d v
  | [], _, i, _, _, e => by simp at e
  | x :: ds, _, 0, d, ⟨v, r, rfl, a, b⟩, e => by
    simp at e; subst e
    cases v with
    | none => exact a.elim
    | some v => exact ⟨v, by simp, a⟩
  | x :: ds, _, i + 1, d, ⟨v, r, rfl, a, b⟩, e => by
    obtain ⟨w, h1, h2⟩ := SRep.get (i := i) b (by simpa using e)
    exact ⟨w, by simpa using h1, h2⟩
theorem SRep.set {K : PySem.W.Frag} {H : Hp} {d : Option D} {v : Option V} (q : ORep K H d v) : ∀ {ds : DS} {σ : St} {i : Nat}, SRep K H ds σ → SRep K H (ds.set i d) (σ.set i v)
  | [], _, i, e => by
    have e' : _ = [] := e
    subst e'; simp [SRep]
  | x :: ds, _, 0, ⟨w, r, rfl, a, b⟩ => by
    simp only [List.set_cons_zero]
    exact ⟨v, r, rfl, q, b⟩
  | x :: ds, _, i + 1, ⟨w, r, rfl, a, b⟩ => by
    simp only [List.set_cons_succ]
    exact ⟨w, _, rfl, a, SRep.set q b⟩
theorem SRep.len {K : PySem.W.Frag} {H : Hp} : ∀ {ds : DS} {σ : St}, SRep K H ds σ → ds.length = σ.length
  | [], _, e => by
    have e' : _ = [] := e
    subst e'; rfl
  | _ :: _, _, ⟨_, _, rfl, _, b⟩ => by simp [SRep.len b]

structure RS (K : PySem.W.Frag) (σD : DS) (h : DH) (σ : St) (H : Hp) : Prop where
  sl : SRep K H σD σ
  hr : HR K H h

/-- what follows of a value of data follows of the value -/
def Post (K : PySem.W.Frag) (σD : DS) (σ : St) (h : DH) (H : Hp) (QD : DK) (Q : VK) : Prop :=
  ∀ d h' v H', QD d h' → RS K σD h' σ H' → Rep K H' d v → Keep h H h' H' → Q v H'
theorem Post.after {K : PySem.W.Frag} {σD : DS} {σ : St} {h h1 : DH} {H H1 : Hp} {QD : DK} {Q : VK} (p : Post K σD σ h H QD Q) (k : Keep h H h1 H1) : Post K σD σ h1 H1 QD Q :=
  fun d h' v H' a b c e => p d h' v H' a b c (k.trans e)
def PostA (K : PySem.W.Frag) (σD : DS) (σ : St) (h : DH) (H : Hp) (QD : List D → DH → Prop) (Q : List V → Hp → Prop) : Prop :=
  ∀ d h' v H', QD d h' → RS K σD h' σ H' → Reps K H' d v → Keep h H h' H' → Q v H'
def PostT (K : PySem.W.Frag) (σD : DS) (σ : St) (h : DH) (H : Hp) (QD : Bool → DH → Prop) (Q : Bool → Hp → Prop) : Prop :=
  ∀ b h' H', QD b h' → RS K σD h' σ H' → Keep h H h' H' → Q b H'

def LE (K : PySem.W.Frag) (t : DTE) : TE := fun σ H Q => ∃ σD h QD, RS K σD h σ H ∧ t σD h QD ∧ Post K σD σ h H QD Q
def LA (K : PySem.W.Frag) (t : DTA) : TA := fun σ H Q => ∃ σD h QD, RS K σD h σ H ∧ t σD h QD ∧ PostA K σD σ h H QD Q
def LT (K : PySem.W.Frag) (t : DTT) : TT := fun σ H Q => ∃ σD h QD, RS K σD h σ H ∧ t σD h QD ∧ PostT K σD σ h H QD Q
structure PostS (K : PySem.W.Frag) (h : DH) (H : Hp) (DD : DEnds) (Ds : Ends) : Prop where
  nx : ∀ σD' h' σ' H', DD.nx σD' h' → RS K σD' h' σ' H' → Keep h H h' H' → Ds.nx σ' H'
  bk : ∀ σD' h' σ' H', DD.bk σD' h' → RS K σD' h' σ' H' → Keep h H h' H' → Ds.bk σ' H'
  ct : ∀ σD' h' σ' H', DD.ct σD' h' → RS K σD' h' σ' H' → Keep h H h' H' → Ds.ct σ' H'
  rt : ∀ d h' v H', DD.rt d h' → HR K H' h' → Rep K H' d v → Keep h H h' H' → Ds.rt v H'
theorem PostS.after {K : PySem.W.Frag} {h h1 : DH} {H H1 : Hp} {DD : DEnds} {Ds : Ends} (p : PostS K h H DD Ds) (k : Keep h H h1 H1) : PostS K h1 H1 DD Ds :=
  ⟨fun a b c d x y z => p.nx a b c d x y (k.trans z), fun a b c d x y z => p.bk a b c d x y (k.trans z), fun a b c d x y z => p.ct a b c d x y (k.trans z), fun a b c d x y z w => p.rt a b c d x y z (k.trans w)⟩
def LS (K : PySem.W.Frag) (t : DTS) : TS := fun Ds σ H => ∃ σD h DD, RS K σD h σ H ∧ t DD σD h ∧ PostS K h H DD Ds

abbrev DE (X : Cx) (e : Expr) (t : DTE) : Prop := PE X e (LE X.K t)
abbrev DA (X : Cx) (es : List Expr) (t : DTA) : Prop := PA X es (LA X.K t)
abbrev DT (X : Cx) (e : Expr) (t : DTT) : Prop := PT X e (LT X.K t)
abbrev DW (X : Cx) (e : Expr) (t : DTT) : Prop := PW X e (LT X.K t)
abbrev DSt (X : Cx) (st : Stmt) (t : DTS) : Prop := PS X st (LS X.K t)
abbrev DSs (X : Cx) (st : List Stmt) (t : DTS) : Prop := PSs X st (LS X.K t)

theorem _root_.L2.PE.imp {X : Cx} {e : Expr} {t t' : TE} (p : PE X e t) (i : ∀ σ H Q, t' σ H Q → t σ H Q) : PE X e t' := ⟨fun pins s σ H Q I q => p.run pins s σ H Q I (i _ _ _ q)⟩
theorem _root_.L2.PT.imp {X : Cx} {e : Expr} {t t' : TT} (p : PT X e t) (i : ∀ σ H Q, t' σ H Q → t σ H Q) : PT X e t' := ⟨fun pins s σ H Q I q => p.run pins s σ H Q I (i _ _ _ q)⟩
theorem _root_.L2.PW.imp {X : Cx} {e : Expr} {t t' : TT} (p : PW X e t) (i : ∀ σ H Q, t' σ H Q → t σ H Q) : PW X e t' := ⟨fun wh pins s σ H Q I q => p.run wh pins s σ H Q I (i _ _ _ q)⟩
theorem _root_.L2.PA.imp {X : Cx} {e : List Expr} {t t' : TA} (p : PA X e t) (i : ∀ σ H Q, t' σ H Q → t σ H Q) : PA X e t' := ⟨fun pos pins s σ H Q I q => p.run pos pins s σ H Q I (i _ _ _ q)⟩
theorem _root_.L2.PS.imp {X : Cx} {e : Stmt} {t t' : TS} (p : PS X e t) (i : ∀ D σ H, t' D σ H → t D σ H) : PS X e t' := ⟨fun pins s σ H D I q => p.run pins s σ H D I (i _ _ _ q)⟩
theorem _root_.L2.PSs.imp {X : Cx} {e : List Stmt} {t t' : TS} (p : PSs X e t) (i : ∀ D σ H, t' D σ H → t D σ H) : PSs X e t' := ⟨fun pins s σ H D I q => p.run pins s σ H D I (i _ _ _ q)⟩

/-! ### names, constants -/
def dVar (i : Nat) : DTE := fun σ h Q => match σ[i]? with
  | some (some d) => Q d h
  | _ => False
def dC (d : D) : DTE := fun _ h Q => Q d h
section
variable {X : Cx}
theorem de_var (i : Nat) {x : Str} {pos : Pos} (hN : X.N[i]? = some x := by rfl) (hv : Vis X.env.scope x := by first | exact Or.inl rfl | exact Or.inr (Or.inl rfl) | exact Or.inr (Or.inr rfl)) (hd : (x == ("__debug__" : Str)) = false := by decide)
    (hcd : (x == ("__classdict__" : Str)) = false := by decide) : DE X (.Name x pos) (dVar i) :=
  (pv i hN hv hd hcd).imp fun σ H Q ⟨σD, h, QD, rs, q, p⟩ => by
    unfold dVar at q
    split at q
    · rename_i d e
      obtain ⟨v, hv, r⟩ := rs.sl.get e
      exact ⟨v, hv, p d h v H q rs r .refl⟩
    · exact q.elim
theorem LE.const {K : PySem.W.Frag} {d : D} {v : V} (r : ∀ H, Rep K H d v) {σ : St} {H : Hp} {Q : VK} (q : LE K (dC d) σ H Q) : tC v σ H Q := by
  obtain ⟨σD, h, QD, rs, q, p⟩ := q
  exact p d h v H q rs (r H) .refl
theorem de_int {i j pos} : DE X (.Constant (.int i) j pos) (dC (.int i)) := pe_int.imp fun _ _ _ => LE.const fun _ => by simp [Rep]
theorem de_bl {b j pos} : DE X (.Constant (.bool b) j pos) (dC (.bl b)) := pe_bl.imp fun _ _ _ => LE.const fun _ => by simp [Rep]
theorem de_non {j pos} : DE X (.Constant .none j pos) (dC .non) := pe_non.imp fun _ _ _ => LE.const fun _ => by simp [Rep]
theorem de_str {x j pos} : DE X (.Constant (.str x) j pos) (dC (.str x)) := pe_str.imp fun _ _ _ => LE.const fun _ => by simp [Rep]
/-- a module's constant -/
theorem de_glob {x : Str} {v : V} {d : D} {u : Value} {pos : Pos} (hg : Gl X x) (hm : X.mg x = some u) (r : RelV v u) (rd : ∀ H, Rep X.K H d v) (hd : (x == ("__debug__" : Str)) = false := by decide) : DE X (.Name x pos) (dC d) :=
  (pe_glob hg hm r hd).imp fun _ _ _ => LE.const rd
end

/-! ### operators -/
abbrev DR2 := D → D → DH → DK → Prop
def dOp (r : DR2) (ta tb : DTE) : DTE := fun σ h Q => ta σ h fun x h1 => tb σ h1 fun y h2 => r x y h2 Q
/-- the operator's reading by data gives its reading by values -/
def Ad2 (K : PySem.W.Frag) (rd : DR2) (r : R2) : Prop :=
  ∀ (σD : DS) (σ : St) (h : DH) (H : Hp) (dx dy : D) (x y : V) (QD : DK) (Q : VK), RS K σD h σ H → Rep K H dx x → Rep K H dy y → rd dx dy h QD → Post K σD σ h H QD Q → r x y H Q
def Ad1 (K : PySem.W.Frag) (rd : D → DH → DK → Prop) (r : V → Hp → VK → Prop) : Prop :=
  ∀ (σD : DS) (σ : St) (h : DH) (H : Hp) (dx : D) (x : V) (QD : DK) (Q : VK), RS K σD h σ H → Rep K H dx x → rd dx h QD → Post K σD σ h H QD Q → r x H Q
def AdA (K : PySem.W.Frag) (rd : List D → DH → DK → Prop) (r : List V → Hp → VK → Prop) : Prop :=
  ∀ (σD : DS) (σ : St) (h : DH) (H : Hp) (dx : List D) (x : List V) (QD : DK) (Q : VK), RS K σD h σ H → Reps K H dx x → rd dx h QD → Post K σD σ h H QD Q → r x H Q
theorem le_op {K : PySem.W.Frag} {rd : DR2} {r : R2} (ad : Ad2 K rd r) {ta tb : DTE} (σ : St) (H : Hp) (Q : VK) (q : LE K (dOp rd ta tb) σ H Q) : tOp r (LE K ta) (LE K tb) σ H Q := by
  obtain ⟨σD, h, QD, rs, q, p⟩ := q
  refine ⟨σD, h, _, rs, q, fun d1 h1 v1 H1 q1 rs1 r1 k1 => ?_⟩
  refine ⟨σD, h1, _, rs1, q1, fun d2 h2 v2 H2 q2 rs2 r2 k2 => ?_⟩
  exact ad σD σ h2 H2 d1 d2 v1 v2 QD Q rs2 (r1.mono (k2.tup rs1.hr)) r2 q2 (p.after (k1.trans k2))
section
variable {X : Cx} {a b c : Expr} {ta tb tc : DTE} {pos : Pos}
theorem de_op {op : Operator} {r : R2} {rd : DR2} (ho : OpR X (binaryOp op) r) (ad : Ad2 X.K rd r) (ha : DE X a ta) (hb : DE X b tb) : DE X (.BinOp a op b pos) (dOp rd ta tb) :=
  (pe_op ho ha hb).imp (le_op ad)
theorem de_cmp {op : CmpOp} {r : R2} {rd : DR2} (ho : OpR X (compareOp op) r) (ad : Ad2 X.K rd r) (ha : DE X a ta) (hb : DE X b tb) (hm : behindInMarks op b = false) : DE X (.Compare a [op] [b] pos) (dOp rd ta tb) :=
  (pe_cmpR ho ha hb hm).imp (le_op ad)
end
/-- ints -/
def rII (C : Int → Int → Prop) (f : Int → Int → Int) : DR2 := fun x y h Q => match x, y with
  | .int i, .int j => C i j ∧ Q (.int (f i j)) h
  | _, _ => False
def rIB (f : Int → Int → Bool) : DR2 := fun x y h Q => match x, y with
  | .int i, .int j => Q (.bl (f i j)) h
  | _, _ => False
theorem rep_int {K : PySem.W.Frag} {H : Hp} {i : Int} {v : V} (r : Rep K H (.int i) v) : v = .int i := by simpa [Rep] using r
theorem rep_bl {K : PySem.W.Frag} {H : Hp} {i : Bool} {v : V} (r : Rep K H (.bl i) v) : v = .bl i := by simpa [Rep] using r
theorem rep_str {K : PySem.W.Frag} {H : Hp} {i : Str} {v : V} (r : Rep K H (.str i) v) : v = .str i := by simpa [Rep] using r
theorem rep_ty {K : PySem.W.Frag} {H : Hp} {i : String} {v : V} (r : Rep K H (.ty i) v) : v = .ty i := by simpa [Rep] using r
theorem rep_ref {K : PySem.W.Frag} {H : Hp} {i : Addr} {v : V} (r : Rep K H (.ref i) v) : v = .ref i := by simpa [Rep] using r
theorem rep_tup {K : PySem.W.Frag} {H : Hp} {ds : List D} {v : V} (r : Rep K H (.tup ds) v) : ∃ a vs, v = .ref a ∧ SqT K H a vs ∧ Reps K H ds vs := by simpa [Rep] using r
theorem ad_ii {K : PySem.W.Frag} {C C' : Int → Int → Prop} {f : Int → Int → Int} {g : Int → Int → V} (hC : ∀ i j, C i j → C' i j) (hg : ∀ i j, C i j → g i j = .int (f i j)) : Ad2 K (rII C f) (rI C' g) := by
  intro σD σ h H dx dy x y QD Q rs rx ry q p
  unfold rII at q
  split at q
  · rename_i i j
    obtain ⟨c, q⟩ := q
    refine ⟨i, j, rep_int rx, rep_int ry, hC i j c, ?_⟩
    rw [hg i j c]
    exact p _ h _ H q rs (by simp [Rep]) .refl
  · exact q.elim
theorem ad_ii0 {K : PySem.W.Frag} {f : Int → Int → Int} {g : Int → Int → V} (hg : ∀ i j, g i j = .int (f i j)) : Ad2 K (rII (fun _ _ => True) f) (rI0 g) := by
  intro σD σ h H dx dy x y QD Q rs rx ry q p
  unfold rII at q
  split at q
  · rename_i i j
    obtain ⟨c, q⟩ := q
    refine ⟨i, j, rep_int rx, rep_int ry, ?_⟩
    rw [hg i j]
    exact p _ h _ H q rs (by simp [Rep]) .refl
  · exact q.elim
theorem ad_ib0 {K : PySem.W.Frag} {f : Int → Int → Bool} {g : Int → Int → V} (hg : ∀ i j, g i j = .bl (f i j)) : Ad2 K (rIB f) (rI0 g) := by
  intro σD σ h H dx dy x y QD Q rs rx ry q p
  unfold rIB at q
  split at q
  · rename_i i j
    refine ⟨i, j, rep_int rx, rep_int ry, ?_⟩
    rw [hg i j]
    exact p _ h _ H q rs (by simp [Rep]) .refl
  · exact q.elim
theorem rep_rol {K : PySem.W.Frag} {H : Hp} {ds : List D} {v : V} (r : Rep K H (.rol ds) v) : ∃ a vs, v = .ref a ∧ SqR K H a vs ∧ Reps K H ds vs := by simpa [Rep] using r
end DL

namespace DL
open PySem PySem.Spec L2
open PyProof.Rows hiding St

/-! ### argument lists -/
def dNil : DTA := fun _ h Q => Q [] h
def dCons (ta : DTE) (tr : DTA) : DTA := fun σ h Q => ta σ h fun x h1 => tr σ h1 fun xs h2 => Q (x :: xs) h2
section
variable {X : Cx} {e : Expr} {es : List Expr} {te : DTE} {t : DTA}
theorem da_nil : DA X [] dNil := pa_nil.imp fun σ H Q ⟨σD, h, QD, rs, q, p⟩ => p [] h [] H q rs (by simp [Reps]) .refl
theorem da_cons (ha : DE X e te) (hr : DA X es t) (hs : starEach (e :: es) X.env = (false, eval e X.env) :: starEach es X.env := by rfl) : DA X (e :: es) (dCons te t) :=
  (pa_cons ha hr hs).imp fun σ H Q ⟨σD, h, QD, rs, q, p⟩ => by
    refine ⟨σD, h, _, rs, q, fun d1 h1 v1 H1 q1 rs1 r1 k1 => ?_⟩
    refine ⟨σD, h1, _, rs1, q1, fun ds h2 vs H2 q2 rs2 r2 k2 => ?_⟩
    refine p _ h2 _ H2 q2 rs2 ?_ (k1.trans k2)
    unfold Reps
    exact ⟨v1, vs, rfl, r1.mono (k2.tup rs1.hr), r2⟩
end
theorem reps_nil {K : PySem.W.Frag} {H : Hp} {vs : List V} (r : Reps K H [] vs) : vs = [] := by simpa [Reps] using r
theorem reps_cons {K : PySem.W.Frag} {H : Hp} {d : D} {ds : List D} {vs : List V} (r : Reps K H (d :: ds) vs) : ∃ v r', vs = v :: r' ∧ Rep K H d v ∧ Reps K H ds r' := by simpa [Reps] using r
theorem reps_one {K : PySem.W.Frag} {H : Hp} {d : D} {vs : List V} (r : Reps K H [d] vs) : ∃ v, vs = [v] ∧ Rep K H d v := by
  obtain ⟨v, r', rfl, a, b⟩ := reps_cons r
  obtain rfl := reps_nil b
  exact ⟨v, rfl, a⟩
theorem reps_two {K : PySem.W.Frag} {H : Hp} {d e : D} {vs : List V} (r : Reps K H [d, e] vs) : ∃ v w, vs = [v, w] ∧ Rep K H d v ∧ Rep K H e w := by
  obtain ⟨v, r', rfl, a, b⟩ := reps_cons r
  obtain ⟨w, rfl, c⟩ := reps_one b
  exact ⟨v, w, rfl, a, c⟩
theorem reps_three {K : PySem.W.Frag} {H : Hp} {d e f : D} {vs : List V} (r : Reps K H [d, e, f] vs) : ∃ v w u, vs = [v, w, u] ∧ Rep K H d v ∧ Rep K H e w ∧ Rep K H f u := by
  obtain ⟨v, r', rfl, a, b⟩ := reps_cons r
  obtain ⟨w, u, rfl, c, c'⟩ := reps_two b
  exact ⟨v, w, u, rfl, a, c, c'⟩
theorem Reps.len {K : PySem.W.Frag} {H : Hp} : ∀ {ds : List D} {vs : List V}, Reps K H ds vs → ds.length = vs.length
  | [], _, r => by obtain rfl := reps_nil r; rfl
  | _ :: _, _, r => by
    obtain ⟨v, r', rfl, _, b⟩ := reps_cons r
    simp [Reps.len b]
theorem Reps.get {K : PySem.W.Frag} {H : Hp} : ∀ {ds : List D} {vs : List V} {i : Nat} {d : D}, Reps K H ds vs → ds[i]? = some d → ∃ v, vs[i]? = some v ∧ Rep K H d v
  | [], _, _, _, _, e => by simp at e
  | _ :: _, _, 0, _, r, e => by
    obtain ⟨v, r', rfl, a, _⟩ := reps_cons r
    simp at e; subst e
    exact ⟨v, by simp, a⟩
  | _ :: _, _, i + 1, _, r, e => by
    obtain ⟨v, r', rfl, _, b⟩ := reps_cons r
    obtain ⟨w, h1, h2⟩ := Reps.get (i := i) b (by simpa using e)
    exact ⟨w, by simpa using h1, h2⟩
theorem Reps.get' {K : PySem.W.Frag} {H : Hp} {ds : List D} {vs : List V} {i : Nat} {v : V} (r : Reps K H ds vs) (e : vs[i]? = some v) : ∃ d, ds[i]? = some d ∧ Rep K H d v := by
  have hi : i < vs.length := (List.getElem?_eq_some_iff.mp e).1
  have hi' : i < ds.length := by rw [r.len]; exact hi
  obtain ⟨w, h1, h2⟩ := r.get (i := i) (d := ds[i]) (by simp [hi'])
  rw [e] at h1; cases h1
  exact ⟨_, by simp [hi'], h2⟩
theorem Reps.append {K : PySem.W.Frag} {H : Hp} : ∀ {ds es : List D} {vs ws : List V}, Reps K H ds vs → Reps K H es ws → Reps K H (ds ++ es) (vs ++ ws)
  | [], _, _, _, r, s => by obtain rfl := reps_nil r; simpa using s
  | _ :: _, _, _, _, r, s => by
    obtain ⟨v, r', rfl, a, b⟩ := reps_cons r
    simp only [List.cons_append]
    unfold Reps
    exact ⟨v, _, rfl, a, Reps.append b s⟩
theorem Reps.drop {K : PySem.W.Frag} {H : Hp} : ∀ {ds : List D} {vs : List V} (n : Nat), Reps K H ds vs → Reps K H (ds.drop n) (vs.drop n)
  | _, _, 0, r => by simpa using r
  | [], _, n + 1, r => by obtain rfl := reps_nil r; simpa using r
  | _ :: _, _, n + 1, r => by
    obtain ⟨v, r', rfl, a, b⟩ := reps_cons r
    simpa using Reps.drop n b
theorem Reps.take {K : PySem.W.Frag} {H : Hp} : ∀ {ds : List D} {vs : List V} (n : Nat), Reps K H ds vs → Reps K H (ds.take n) (vs.take n)
  | _, _, 0, r => by simp [Reps]
  | [], _, n + 1, r => by obtain rfl := reps_nil r; simpa using r
  | _ :: _, _, n + 1, r => by
    obtain ⟨v, r', rfl, a, b⟩ := reps_cons r
    simp only [List.take_succ_cons]
    unfold Reps
    exact ⟨v, _, rfl, a, Reps.take n b⟩
theorem Reps.set {K : PySem.W.Frag} {H : Hp} {d : D} {v : V} (q : Rep K H d v) : ∀ {ds : List D} {vs : List V} (n : Nat), Reps K H ds vs → Reps K H (ds.set n d) (vs.set n v)
  | [], _, n, r => by obtain rfl := reps_nil r; simpa using r
  | _ :: _, _, 0, r => by
    obtain ⟨w, r', rfl, a, b⟩ := reps_cons r
    simp only [List.set_cons_zero]
    unfold Reps
    exact ⟨v, _, rfl, q, b⟩
  | _ :: _, _, n + 1, r => by
    obtain ⟨w, r', rfl, a, b⟩ := reps_cons r
    simp only [List.set_cons_succ]
    unfold Reps
    exact ⟨w, _, rfl, a, Reps.set q n b⟩
theorem Reps.rep {K : PySem.W.Frag} {H : Hp} {d : D} {v : V} (q : Rep K H d v) : ∀ (n : Nat), Reps K H (List.replicate n d) (List.replicate n v)
  | 0 => by simp [Reps]
  | n + 1 => by
    simp only [List.replicate_succ]
    unfold Reps
    exact ⟨v, _, rfl, q, Reps.rep q n⟩
theorem Reps.flat {K : PySem.W.Frag} {H : Hp} {ds : List D} {vs : List V} (q : Reps K H ds vs) : ∀ (n : Nat), Reps K H (List.replicate n ds).flatten (List.replicate n vs).flatten
  | 0 => by simp [Reps]
  | n + 1 => by
    simp only [List.replicate_succ, List.flatten_cons]
    exact Reps.append q (Reps.flat q n)
theorem reps_ints {K : PySem.W.Frag} {H : Hp} : ∀ {ns : List Int} {vs : List V}, Reps K H (ns.map D.int) vs → vs = ns.map V.int
  | [], _, r => by simpa using reps_nil r
  | n :: ns, _, r => by
    obtain ⟨v, r', rfl, a, b⟩ := reps_cons (by simpa using r)
    obtain rfl := rep_int a
    rw [reps_ints b]; rfl
theorem ints_reps {K : PySem.W.Frag} {H : Hp} : ∀ (ns : List Int), Reps K H (ns.map D.int) (ns.map V.int)
  | [] => by simp [Reps]
  | n :: ns => by
    simp only [List.map_cons]
    unfold Reps
    exact ⟨_, _, rfl, by simp [Rep], ints_reps ns⟩

/-! ### displays -/
def dTup (t : DTA) : DTE := fun σ h Q => t σ h fun ds h1 => ds.length ≤ sizeLine ∧ Q (.tup ds) h1
def dLst (t : DTA) : DTE := fun σ h Q => t σ h fun ds h1 => ds.length ≤ sizeLine ∧ ∀ p, h1 p = none → Q (.ref p) (updD h1 p (.lst ds))
theorem rep_tup_mk {K : PySem.W.Frag} {H : Hp} {p : Addr} {ds : List D} {vs : List V} (n : H p = none) (r : Reps K H ds vs) : Rep K (upd H p (.tup vs)) (.tup ds) (.ref p) := by
  unfold Rep
  exact ⟨p, vs, rfl, .inl (.inl upd_same), r.mono (tupMono_new n)⟩
theorem RS.hid {K : PySem.W.Frag} {σD : DS} {h : DH} {σ : St} {H : Hp} {p : Addr} {u : HO} (rs : RS K σD h σ H) (n : H p = none) : RS K σD h σ (upd H p u) := ⟨rs.sl.mono (tupMono_new n), rs.hr.hid n⟩
theorem RS.new {K : PySem.W.Frag} {σD : DS} {h : DH} {σ : St} {H : Hp} {p : Addr} {u : HO} {o : DO} (rs : RS K σD h σ H) (n : H p = none) (q : HOR K H o u) : RS K σD (updD h p o) σ (upd H p u) := ⟨rs.sl.mono (tupMono_new n), rs.hr.new n q⟩
theorem RS.put {K : PySem.W.Frag} {σD : DS} {h : DH} {σ : St} {H : Hp} {p : Addr} {u : HO} {o o0 : DO} (rs : RS K σD h σ H) (e : h p = some o0) (q : HOR K H o u) : RS K σD (updD h p o) σ (upd H p u) := ⟨rs.sl.mono (tupMono_put rs.hr e), rs.hr.put e q⟩
/-- a new tuple of these -/
theorem Post.tup {K : PySem.W.Frag} {σD : DS} {σ : St} {h : DH} {H : Hp} {QD : DK} {Q : VK} {ds : List D} {vs : List V} (p : Post K σD σ h H QD Q) (rs : RS K σD h σ H) (r : Reps K H ds vs) (q : QD (.tup ds) h) : ∀ a, H a = none → Q (.ref a) (upd H a (.tup vs)) :=
  fun a n => p _ h _ _ q (rs.hid n) (rep_tup_mk n r) (.hid n)
/-- a new list of these -/
theorem Post.lst {K : PySem.W.Frag} {σD : DS} {σ : St} {h : DH} {H : Hp} {QD : DK} {Q : VK} {ds : List D} {vs : List V} (p : Post K σD σ h H QD Q) (rs : RS K σD h σ H) (r : Reps K H ds vs) (q : ∀ a, h a = none → QD (.ref a) (updD h a (.lst ds))) : ∀ a, H a = none → Q (.ref a) (upd H a (.lst vs)) :=
  fun a n => p _ _ _ _ (q a (rs.hr.none n)) (rs.new n (show HOR K H (.lst ds) (.lst vs) from r)) (by simp [Rep]) (.new n)
section
variable {X : Cx} {es : List Expr} {t : DTA} {pos : Pos}
theorem de_tup {x1} (h : DA X es t) : DE X (.Tuple es x1 pos) (dTup t) := (pe_tup h).imp fun σ H Q ⟨σD, h, QD, rs, q, p⟩ =>
  ⟨σD, h, _, rs, q, fun ds h1 vs H1 ⟨ln, q1⟩ rs1 r1 k1 => ⟨by rw [← r1.len]; exact ln, (p.after k1).tup rs1 r1 q1⟩⟩
theorem de_lst (h : DA X es t) : DE X (.List es pos) (dLst t) := (pe_lst h).imp fun σ H Q ⟨σD, h, QD, rs, q, p⟩ =>
  ⟨σD, h, _, rs, q, fun ds h1 vs H1 ⟨ln, q1⟩ rs1 r1 k1 => ⟨by rw [← r1.len]; exact ln, (p.after k1).lst rs1 r1 q1⟩⟩
end

/-! ### what a list, a tuple holds -/
/-- the items of a value: a tuple's, a list's -/
def itemsD (h : DH) : D → Option (List D)
  | .tup ds => some ds
  | .rol ds => some ds
  | .ref a => match h a with
    | some (.lst ds) => some ds
    | _ => none
  | _ => none
theorem HR.lst {K : PySem.W.Frag} {H : Hp} {h : DH} {a : Addr} {ds : List D} (r : HR K H h) (e : h a = some (.lst ds)) : ∃ vs, H a = some (.lst vs) ∧ Reps K H ds vs := by
  obtain ⟨u, hu, q⟩ := r a _ e
  cases u with
  | lst vs => exact ⟨vs, hu, q⟩
  | _ => exact q.elim
/-- a list to be read -/
theorem HR.sql {K : PySem.W.Frag} {H : Hp} {h : DH} {a : Addr} {ds : List D} (r : HR K H h) (e : h a = some (.lst ds)) : ∃ vs, SqL K H a vs ∧ Reps K H ds vs := by
  obtain ⟨vs, hv, q⟩ := r.lst e
  exact ⟨vs, .inl (.inl hv), q⟩
theorem items_ref {h : DH} {a : Addr} {ds : List D} (e : itemsD h (.ref a) = some ds) : h a = some (.lst ds) := by
  have e' : (match h a with
    | some (.lst ds) => some ds
    | _ => none) = some ds := e
  split at e'
  · rename_i z; cases e'; exact z
  · cases e'
/-- the items of a value of data are those of the value -/
theorem items_of {K : PySem.W.Frag} {H : Hp} {h : DH} {d : D} {v : V} {ds : List D} (r : HR K H h) (e : itemsD h d = some ds) (q : Rep K H d v) : ∃ a vs, v = .ref a ∧ (SqL K H a vs ∨ SqT K H a vs) ∧ Reps K H ds vs := by
  cases d with
  | tup es =>
    obtain ⟨a, vs, rfl, s, q⟩ := rep_tup q
    cases e
    exact ⟨a, vs, rfl, .inr s, q⟩
  | ref a =>
    obtain rfl := rep_ref q
    obtain ⟨vs, s, q⟩ := r.sql (items_ref e)
    exact ⟨a, vs, rfl, .inl s, q⟩
  | rol es =>
    obtain ⟨a, vs, rfl, s, q⟩ := rep_rol q
    cases e
    exact ⟨a, vs, rfl, .inl s.sql, q⟩
  | ty n => cases e
  | non => cases e
  | bl b => cases e
  | int b => cases e
  | str b => cases e

/-! ### subscripts, slices -/
def rIx : DR2 := fun x y h Q => match itemsD h x, y with
  | some ds, .int i => match atI ds i with
    | some d => Q d h
    | none => False
  | _, _ => False
theorem atI_rep {K : PySem.W.Frag} {H : Hp} {ds : List D} {vs : List V} {i : Int} {d : D} (r : Reps K H ds vs) (e : atI ds i = some d) : ∃ v, atI vs i = some v ∧ Rep K H d v := by
  unfold atI at e ⊢
  rw [← r.len]
  cases q : ixN ds.length i with
  | none => rw [q] at e; cases e
  | some j =>
    rw [q] at e
    exact r.get e
theorem ad_ix {K : PySem.W.Frag} : Ad2 K rIx (fun x y H Q => rIxL K x y H Q ∨ rIxT K x y H Q) := by
  intro σD σ h H dx dy x y QD Q rs rx ry q p
  unfold rIx at q
  split at q
  · rename_i ds i e
    split at q
    · rename_i d e2
      obtain ⟨a, vs, rfl, s, r⟩ := items_of rs.hr e rx
      obtain ⟨v, hv, rv⟩ := atI_rep r e2
      obtain rfl := rep_int ry
      have fin := p d h v H q rs rv .refl
      rcases s with s | s
      · exact .inl ⟨a, vs, i, v, rfl, rfl, s, hv, fin⟩
      · exact .inr ⟨a, vs, i, v, rfl, rfl, s, hv, fin⟩
    · exact q.elim
  · exact q.elim
section
variable {X : Cx} {a b : Expr} {ta tb : DTE} {pos : Pos}
theorem de_ix (ha : DE X a ta) (hb : DE X b tb) (hs : PlainIx b := by exact fun _ _ => rfl) : DE X (.Subscript a b pos) (dOp rIx ta tb) :=
  (pe_ix (ix_list.or ix_tup) ha hb hs).imp (le_op ad_ix)
end
abbrev DTO := DS → DH → (Option Int → DH → Prop) → Prop
def LO (K : PySem.W.Frag) (t : DTO) : TO := fun σ H Q => ∃ σD h QD, RS K σD h σ H ∧ t σD h QD ∧ ∀ o h' H', QD o h' → RS K σD h' σ H' → Keep h H h' H' → Q o H'
abbrev DOp (X : Cx) (e : Option Expr) (t : DTO) : Prop := PO X e (LO X.K t)
def dNoPart : DTO := fun _ h Q => Q none h
def dPart (t : DTE) : DTO := fun σ h Q => t σ h fun x h1 => match x with
  | .int i => Q (some i) h1
  | _ => False
theorem _root_.L2.PO.imp {X : Cx} {e : Option Expr} {t t' : TO} (p : PO X e t) (i : ∀ σ H Q, t' σ H Q → t σ H Q) : PO X e t' := ⟨fun pins s σ H Q I q => p.run pins s σ H Q I (i _ _ _ q)⟩
section
variable {X : Cx} {e : Expr} {te : DTE}
theorem do_none : DOp X none dNoPart := po_none.imp fun σ H Q ⟨σD, h, QD, rs, q, p⟩ => p none h H q rs .refl
theorem do_some (he : DE X e te) : DOp X (some e) (dPart te) := (po_some he).imp fun σ H Q ⟨σD, h, QD, rs, q, p⟩ => by
  refine ⟨σD, h, _, rs, q, fun d1 h1 v1 H1 q1 rs1 r1 k1 => ?_⟩
  cases d1 with
  | int i =>
    obtain rfl := rep_int r1
    exact ⟨i, rfl, p (some i) h1 H1 q1 rs1 k1⟩
  | _ => exact q1.elim
end
def cutG {α : Type} (xs : List α) (lo hi : Option Int) : List α := (xs.drop (HT.sIx xs.length 0 lo)).take (HT.sIx xs.length xs.length hi - HT.sIx xs.length 0 lo)
theorem cut_rep {K : PySem.W.Frag} {H : Hp} {ds : List D} {vs : List V} (r : Reps K H ds vs) (lo hi : Option Int) : Reps K H (cutG ds lo hi) (cutV vs lo hi) := by
  unfold cutG cutV
  rw [r.len]
  exact (r.drop _).take _
theorem cut_whole {α : Type} {xs : List α} {lo hi : Option Int} (h : HT.sIx xs.length 0 lo = 0 ∧ HT.sIx xs.length xs.length hi = xs.length) : cutG xs lo hi = xs := by
  unfold cutG
  rw [h.1, h.2]
  simp
def rSl (x : D) (lo hi : Option Int) (h : DH) (Q : DK) : Prop := match x with
  | .tup ds => Q (.tup (cutG ds lo hi)) h
  | .rol ds => ∀ p, h p = none → Q (.ref p) (updD h p (.lst (cutG ds lo hi)))
  | .ref a => match h a with
    | some (.lst ds) => ∀ p, h p = none → Q (.ref p) (updD h p (.lst (cutG ds lo hi)))
    | _ => False
  | _ => False
def dSl (te : DTE) (tl th : DTO) : DTE := fun σ h Q => te σ h fun x h1 => tl σ h1 fun l h2 => th σ h2 fun u h3 => rSl x l u h3 Q
theorem ad_sl {K : PySem.W.Frag} {σD : DS} {σ : St} {h : DH} {H : Hp} {dx : D} {x : V} {lo hi : Option Int} {QD : DK} {Q : VK} (rs : RS K σD h σ H) (rx : Rep K H dx x) (q : rSl dx lo hi h QD) (p : Post K σD σ h H QD Q) : rSlL K x lo hi H Q ∨ rSlA K x lo hi H Q := by
  unfold rSl at q
  split at q
  · rename_i ds
    obtain ⟨a, vs, rfl, s, r⟩ := rep_tup rx
    refine .inr ⟨a, vs, rfl, s, fun w => ?_, fun _ => p.tup rs (cut_rep r lo hi) q⟩
    rw [cut_whole (by rw [r.len]; exact w)] at q
    exact p _ h _ H q rs (by unfold Rep; exact ⟨a, vs, rfl, s, r⟩) .refl
  · rename_i ds
    obtain ⟨a, vs, rfl, s, r⟩ := rep_rol rx
    exact .inl ⟨a, vs, rfl, s.sql, p.lst rs (cut_rep r lo hi) q⟩
  · rename_i a
    obtain rfl := rep_ref rx
    split at q
    · rename_i ds e
      obtain ⟨vs, s, r⟩ := rs.hr.sql e
      exact .inl ⟨a, vs, rfl, s, p.lst rs (cut_rep r lo hi) q⟩
    · exact q.elim
  · exact q.elim
section
variable {X : Cx} {e : Expr} {te : DTE} {lo hi : Option Expr} {tl th : DTO} {pos p2 : Pos}
theorem de_slice (he : DE X e te) (hl : DOp X lo tl) (hu : DOp X hi th) : DE X (.Subscript e (.Slice lo hi none p2) pos) (dSl te tl th) :=
  (pe_slice (sl_list.or sl_tupA) he hl hu).imp fun σ H Q ⟨σD, h, QD, rs, q, p⟩ => by
    refine ⟨σD, h, _, rs, q, fun d1 h1 v1 H1 q1 rs1 r1 k1 => ?_⟩
    refine ⟨σD, h1, _, rs1, q1, fun o2 h2 H2 q2 rs2 k2 => ?_⟩
    refine ⟨σD, h2, _, rs2, q2, fun o3 h3 H3 q3 rs3 k3 => ?_⟩
    exact ad_sl rs3 (r1.mono ((k2.trans k3).tup rs1.hr)) q3 (p.after (k1.trans (k2.trans k3)))
end

/-! ### calls of what is built in -/
def dCB (r : List D → DH → DK → Prop) (t : DTA) : DTE := fun σ h Q => t σ h fun vs h1 => r vs h1 Q
theorem le_cb {K : PySem.W.Frag} {rd : List D → DH → DK → Prop} {r : List V → Hp → VK → Prop} (ad : AdA K rd r) {t : DTA} (σ : St) (H : Hp) (Q : VK) (q : LE K (dCB rd t) σ H Q) : tCB r (LA K t) σ H Q := by
  obtain ⟨σD, h, QD, rs, q, p⟩ := q
  exact ⟨σD, h, _, rs, q, fun ds h1 vs H1 q1 rs1 r1 k1 => ad σD σ h1 H1 ds vs QD Q rs1 r1 q1 (p.after k1)⟩
section
variable {X : Cx} {x : Str} {e : Expr} {es : List Expr} {t : DTA} {p pos : Pos} {id T : String} {r : List V → Hp → VK → Prop} {rd : List D → DH → DK → Prop}
theorem de_callB (hc : CallR X (.builtin id) r) (ad : AdA X.K rd r) (hg : Gl X x) (hm : X.mg x = none) (hv : bootBuiltins x = some (.builtin id)) (ha : DA X (e :: es) t) (hn : x ≠ "__name__" := by decide) (hdb : (x == ("__debug__" : Str)) = false := by decide)
    (he : starEach (e :: es) X.env = (false, eval e X.env) :: starEach es X.env := by rfl) (hpl : (backTo pos (starEach es X.env)).any (·.1) = false := by rfl) : DE X (.Call (.Name x p) (e :: es) [] pos) (dCB rd t) :=
  (pe_callB hc hg hm hv ha hn hdb he hpl).imp (le_cb ad)
theorem de_callTy (hc : CallR X (.type T) r) (ad : AdA X.K rd r) (hg : Gl X x) (hm : X.mg x = none) (hv : bootBuiltins x = some (.type T)) (ha : DA X (e :: es) t) (hn : x ≠ "__name__" := by decide) (hdb : (x == ("__debug__" : Str)) = false := by decide)
    (he : starEach (e :: es) X.env = (false, eval e X.env) :: starEach es X.env := by rfl) (hpl : (backTo pos (starEach es X.env)).any (·.1) = false := by rfl) : DE X (.Call (.Name x p) (e :: es) [] pos) (dCB rd t) :=
  (pe_callTy hc hg hm hv ha hn hdb he hpl).imp (le_cb ad)
end
/-- len of a list, a tuple -/
def rLen : List D → DH → DK → Prop := fun xs h Q => match xs with
  | [d] => match itemsD h d with
    | some ds => Q (.int ds.length) h
    | none => False
  | _ => False
theorem ad_len {K : PySem.W.Frag} : AdA K rLen (fun xs H Q => ∃ x n, xs = [x] ∧ LenV K x H n ∧ Q (.int n) H) := by
  intro σD σ h H dx x QD Q rs rx q p
  unfold rLen at q
  split at q
  · rename_i d
    split at q
    · rename_i ds e
      obtain ⟨v, rfl, rv⟩ := reps_one rx
      obtain ⟨a, vs, rfl, s, r⟩ := items_of rs.hr e rv
      have fin : Q (.int ds.length) H := p _ h (.int ds.length) H q rs (by simp [Rep]) .refl
      rw [r.len] at fin
      refine ⟨_, vs.length, rfl, ?_, fin⟩
      rcases s with s | s
      · exact .inl ⟨vs, s, rfl⟩
      · exact .inr ⟨vs, s, rfl⟩
    · exact q.elim
  · exact q.elim
def rAbs : List D → DH → DK → Prop := fun xs h Q => match xs with
  | [.int i] => Q (.int (if i < 0 then -i else i)) h
  | _ => False
theorem ad_abs {K : PySem.W.Frag} : AdA K rAbs (fun xs H Q => ∃ i, xs = [.int i] ∧ Q (.int (if i < 0 then -i else i)) H) := by
  intro σD σ h H dx x QD Q rs rx q p
  unfold rAbs at q
  split at q
  · rename_i i
    obtain ⟨v, rfl, rv⟩ := reps_one rx
    obtain rfl := rep_int rv
    exact ⟨i, rfl, p _ h _ H q rs (by simp [Rep]) .refl⟩
  · exact q.elim
def rInt : List D → DH → DK → Prop := fun xs h Q => match xs with
  | [.int i] => Q (.int i) h
  | [.bl b] => Q (.int (if b then 1 else 0)) h
  | _ => False
theorem ad_int {K : PySem.W.Frag} : AdA K rInt (fun xs H Q => (∃ i, xs = [.int i] ∧ Q (.int i) H) ∨ ∃ k, xs = [.bl k] ∧ Q (.int (if k then 1 else 0)) H) := by
  intro σD σ h H dx x QD Q rs rx q p
  unfold rInt at q
  split at q
  · rename_i i
    obtain ⟨v, rfl, rv⟩ := reps_one rx
    obtain rfl := rep_int rv
    exact .inl ⟨i, rfl, p _ h _ H q rs (by simp [Rep]) .refl⟩
  · rename_i i
    obtain ⟨v, rfl, rv⟩ := reps_one rx
    obtain rfl := rep_bl rv
    exact .inr ⟨i, rfl, p _ h _ H q rs (by simp [Rep]) .refl⟩
  · exact q.elim
/-- tuple(xs), list(xs) -/
def rTupleOf : List D → DH → DK → Prop := fun xs h Q => match xs with
  | [d] => match itemsD h d with
    | some ds => Q (.tup ds) h
    | none => False
  | _ => False
theorem ad_tupleOf {K : PySem.W.Frag} : AdA K rTupleOf (fun xs H Q => ∃ p ys, xs = [.ref p] ∧ ((SqL K H p ys ∧ ∀ l, H l = none → Q (.ref l) (upd H l (.tup ys))) ∨ (SqT K H p ys ∧ Q (.ref p) H))) := by
  intro σD σ h H dx x QD Q rs rx q p
  unfold rTupleOf at q
  split at q
  · rename_i d
    split at q
    · rename_i ds e
      obtain ⟨v, rfl, rv⟩ := reps_one rx
      obtain ⟨a, vs, rfl, s, r⟩ := items_of rs.hr e rv
      refine ⟨a, vs, rfl, ?_⟩
      rcases s with s | s
      · exact .inl ⟨s, p.tup rs r q⟩
      · exact .inr ⟨s, p _ h _ H q rs (by unfold Rep; exact ⟨a, vs, rfl, s, r⟩) .refl⟩
    · exact q.elim
  · exact q.elim
def rListOf : List D → DH → DK → Prop := fun xs h Q => match xs with
  | [d] => match itemsD h d with
    | some ds => ∀ p, h p = none → Q (.ref p) (updD h p (.lst ds))
    | none => False
  | _ => False
theorem ad_listOf {K : PySem.W.Frag} : AdA K rListOf (fun xs H Q => ∃ p ys, xs = [.ref p] ∧ (SqL K H p ys ∨ SqT K H p ys) ∧ ∀ l, H l = none → Q (.ref l) (upd H l (.lst ys))) := by
  intro σD σ h H dx x QD Q rs rx q p
  unfold rListOf at q
  split at q
  · rename_i d
    split at q
    · rename_i ds e
      obtain ⟨v, rfl, rv⟩ := reps_one rx
      obtain ⟨a, vs, rfl, s, r⟩ := items_of rs.hr e rv
      exact ⟨a, vs, rfl, s, p.lst rs r q⟩
    · exact q.elim
  · exact q.elim
/-- the ints of data -/
def intsD : List D → Option (List Int)
  | [] => some []
  | .int i :: r => (intsD r).map (i :: ·)
  | _ :: _ => none
theorem intsD_map : ∀ {ds : List D} {ns : List Int}, intsD ds = some ns → ds = ns.map D.int
  | [], _, e => by cases e; rfl
  | .int i :: r, ns, e => by
    unfold intsD at e
    cases q : intsD r with
    | none => rw [q] at e; cases e
    | some ms =>
      rw [q] at e
      cases e
      rw [intsD_map q]; rfl
  | .non :: _, _, e => by cases e
  | .bl _ :: _, _, e => by cases e
  | .str _ :: _, _, e => by cases e
  | .tup _ :: _, _, e => by cases e
  | .ref _ :: _, _, e => by cases e
  | .rol _ :: _, _, e => by cases e
  | .ty _ :: _, _, e => by cases e
theorem intsD_of : ∀ (ns : List Int), intsD (ns.map D.int) = some ns
  | [] => rfl
  | n :: ns => by
    simp only [List.map_cons, intsD]
    rw [intsD_of ns]; rfl
/-- sum of a list of ints -/
def rSumD : List D → DH → DK → Prop := fun xs h Q => match xs with
  | [.ref a] => match itemsD h (.ref a) with
    | some ds => match intsD ds with
      | some ns => Q (.int ns.sum) h
      | none => False
    | none => False
  | _ => False
theorem ad_sum {K : PySem.W.Frag} : AdA K rSumD (rSum K) := by
  intro σD σ h H dx x QD Q rs rx q p
  unfold rSumD at q
  split at q
  · rename_i a
    split at q
    · rename_i ds e
      split at q
      · rename_i ns e2
        obtain ⟨v, rfl, rv⟩ := reps_one rx
        obtain rfl := rep_ref rv
        obtain ⟨vs, s, r⟩ := rs.hr.sql (items_ref e)
        rw [intsD_map e2] at r
        rw [reps_ints r] at s
        exact ⟨a, ns, rfl, s, p _ h _ H q rs (by simp [Rep]) .refl⟩
      · exact q.elim
    · exact q.elim
  · exact q.elim
def rMax2 : List D → DH → DK → Prop := fun xs h Q => match xs with
  | [.int i, .int j] => Q (.int (if j > i then j else i)) h
  | _ => False
def rMin2 : List D → DH → DK → Prop := fun xs h Q => match xs with
  | [.int i, .int j] => Q (.int (if j < i then j else i)) h
  | _ => False
theorem ad_max2 {K : PySem.W.Frag} : AdA K rMax2 (fun xs H Q => ∃ i j, xs = [.int i, .int j] ∧ Q (.int (if j > i then j else i)) H) := by
  intro σD σ h H dx x QD Q rs rx q p
  unfold rMax2 at q
  split at q
  · rename_i i j
    obtain ⟨v, w, rfl, rv, rw⟩ := reps_two rx
    obtain rfl := rep_int rv
    obtain rfl := rep_int rw
    exact ⟨i, j, rfl, p _ h _ H q rs (by simp [Rep]) .refl⟩
  · exact q.elim
theorem ad_min2 {K : PySem.W.Frag} : AdA K rMin2 (fun xs H Q => ∃ i j, xs = [.int i, .int j] ∧ Q (.int (if j < i then j else i)) H) := by
  intro σD σ h H dx x QD Q rs rx q p
  unfold rMin2 at q
  split at q
  · rename_i i j
    obtain ⟨v, w, rfl, rv, rw⟩ := reps_two rx
    obtain rfl := rep_int rv
    obtain rfl := rep_int rw
    exact ⟨i, j, rfl, p _ h _ H q rs (by simp [Rep]) .refl⟩
  · exact q.elim

/-! ### calls of defs -/
abbrev DSp := List D → DH → DK → Prop
/-- a promise by data as a promise by values: nothing is raised; part of the heap of data may be forgotten -/
def liftF (K : PySem.W.Frag) (sp : DSp) : Sp := fun vs H Q _ => ∃ ds h QD, Reps K H ds vs ∧ HR K H h ∧ sp ds h QD ∧ ∀ d h' v H', QD d h' → HR K H' h' → Rep K H' d v → Keep h H h' H' → Q v H'
def dCall (sp : DSp) (t : DTA) : DTE := fun σ h Q => t σ h fun ds h1 => sp ds h1 Q
theorem le_call {K : PySem.W.Frag} {sp : DSp} {E : XK} {t : DTA} (σ : St) (H : Hp) (Q : VK) (q : LE K (dCall sp t) σ H Q) : tCall (liftF K sp) [] E (LA K t) σ H Q := by
  obtain ⟨σD, h, QD, rs, q, p⟩ := q
  refine ⟨σD, h, _, rs, q, fun ds h1 vs H1 q1 rs1 r1 k1 => ?_⟩
  show liftF K sp (vs ++ []) H1 Q E
  rw [List.append_nil]
  exact ⟨ds, h1, QD, r1, rs1.hr, q1, fun d h' v H' q2 hr2 r2 k2 => p d h' v H' q2 ⟨rs1.sl.mono (k2.tup rs1.hr), hr2⟩ r2 (k1.trans k2)⟩
section
variable {X : Cx} {x : Str} {e : Expr} {es : List Expr} {t : DTA} {p pos : Pos} {f : Addr} {fd : FuncData} {ps : List Str} {sp : DSp} {k : Nat}
theorem de_call (F : FnOk X.prog X.w X.K X.mg X.base CX0 k f fd ps (liftF X.K sp)) (hr : Room k X.A) (hg : Gl X x) (hm : X.mg x = some (.ref f)) (hk : PySem.W.keepIn X.K (.ref f) = true) (hb : Binds X.K fd ps [])
    (ha : DA X (e :: es) t) (hdb : (x == ("__debug__" : Str)) = false := by decide) (he : starEach (e :: es) X.env = (false, eval e X.env) :: starEach es X.env := by rfl) (hpl : (backTo pos (starEach es X.env)).any (·.1) = false := by rfl) :
    DE X (.Call (.Name x p) (e :: es) [] pos) (dCall sp t) := (pe_call F hr hg hm hk hb .nil pass0 ha hdb he hpl).imp le_call
end
end DL

namespace DL
open PySem PySem.Spec L2
open PyProof.Rows hiding St

/-! ### tests -/
/-- an expression that gives a truth value -/
def dTest (t : DTE) : DTT := fun σ h Q => t σ h fun x h1 => match x with
  | .bl b => Q b h1
  | _ => False
def dAnd (t u : DTT) : DTT := fun σ h Q => t σ h fun c h1 => if c = true then u σ h1 Q else Q false h1
def dOr (t u : DTT) : DTT := fun σ h Q => t σ h fun c h1 => if c = true then Q true h1 else u σ h1 Q
def dNot (t : DTT) : DTT := fun σ h Q => t σ h fun c h1 => Q (!c) h1
def dIf (t : DTT) (ta tb : DTE) : DTE := fun σ h Q => t σ h fun c h1 => if c = true then ta σ h1 Q else tb σ h1 Q
def dAndV (ta tb : DTE) : DTE := fun σ h Q => ta σ h fun x h1 => match x with
  | .bl c => if c = true then tb σ h1 Q else Q (.bl false) h1
  | _ => False
def dOrV (ta tb : DTE) : DTE := fun σ h Q => ta σ h fun x h1 => match x with
  | .bl c => if c = true then Q (.bl true) h1 else tb σ h1 Q
  | _ => False
def dNotV (ta : DTE) : DTE := fun σ h Q => ta σ h fun x h1 => match x with
  | .bl c => Q (.bl (!c)) h1
  | _ => False
section
variable {X : Cx} {a b c e : Expr} {rest : List Expr} {ta tb te : DTE} {tA tB' : DTT} {pos : Pos}
theorem dt_val (h : DE X e te) (he : ∀ whole, isTrue e X.env whole = (do let v ← whole; standAt e.pos; holding [v] (truthy v)) := by intro _; rfl) : DT X e (dTest te) :=
  (pt_val h he).imp fun σ H Q ⟨σD, h, QD, rs, q, p⟩ => by
    refine ⟨σD, h, _, rs, q, fun d1 h1 v1 H1 q1 rs1 r1 k1 => ?_⟩
    cases d1 with
    | bl c =>
      obtain rfl := rep_bl r1
      exact ⟨c, rfl, p c h1 H1 q1 rs1 k1⟩
    | _ => exact q1.elim
theorem dt_cmp {op : CmpOp} {r : R2} {rd : DR2} (ho : OpR X (compareOp op) r) (ad : Ad2 X.K rd r) (ha : DE X a ta) (hb : DE X b tb) (hm : behindInMarks op b = false) : DT X (.Compare a [op] [b] pos) (dTest (dOp rd ta tb)) :=
  (pt_cmpR ho ha hb hm).imp fun σ H Q ⟨σD, h, QD, rs, q, p⟩ => by
    refine le_op ad σ H _ ⟨σD, h, _, rs, q, fun d1 h1 v1 H1 q1 rs1 r1 k1 => ?_⟩
    cases d1 with
    | bl c =>
      obtain rfl := rep_bl r1
      exact ⟨c, rfl, p c h1 H1 q1 rs1 k1⟩
    | _ => exact q1.elim
theorem dw_and (ha : DT X a tA) (hb : DW X (.BoolOp .And (b :: rest) pos) tB') : DW X (.BoolOp .And (a :: b :: rest) pos) (dAnd tA tB') :=
  (pw_and ha hb).imp fun σ H Q ⟨σD, h, QD, rs, q, p⟩ => by
    refine ⟨σD, h, _, rs, q, fun c h1 H1 q1 rs1 k1 => ?_⟩
    cases c with
    | true => exact ⟨σD, h1, QD, rs1, q1, fun b h2 H2 q2 rs2 k2 => p b h2 H2 q2 rs2 (k1.trans k2)⟩
    | false => exact p false h1 H1 q1 rs1 k1
theorem dw_and1 (ha : DT X a tA) : DW X (.BoolOp .And [a] pos) tA := pw_and1 ha
theorem dw_or (ha : DT X a tA) (hb : DW X (.BoolOp .Or (b :: rest) pos) tB') : DW X (.BoolOp .Or (a :: b :: rest) pos) (dOr tA tB') :=
  (pw_or ha hb).imp fun σ H Q ⟨σD, h, QD, rs, q, p⟩ => by
    refine ⟨σD, h, _, rs, q, fun c h1 H1 q1 rs1 k1 => ?_⟩
    cases c with
    | false => exact ⟨σD, h1, QD, rs1, q1, fun b h2 H2 q2 rs2 k2 => p b h2 H2 q2 rs2 (k1.trans k2)⟩
    | true => exact p true h1 H1 q1 rs1 k1
theorem dw_or1 (ha : DT X a tA) : DW X (.BoolOp .Or [a] pos) tA := pw_or1 ha
theorem dt_w (h : DW X e tA) : DT X e tA := PW.pt h
theorem dt_not (ha : DT X a tA) : DT X (.UnaryOp .Not a pos) (dNot tA) :=
  (pt_not ha).imp fun σ H Q ⟨σD, h, QD, rs, q, p⟩ => ⟨σD, h, _, rs, q, fun c h1 H1 q1 rs1 k1 => p _ h1 H1 q1 rs1 k1⟩
theorem de_ifExp (hc : DT X c tA) (ha : DE X a ta) (hb : DE X b tb) : DE X (.IfExp c a b pos) (dIf tA ta tb) :=
  (pe_ifExp hc ha hb).imp fun σ H Q ⟨σD, h, QD, rs, q, p⟩ => by
    refine ⟨σD, h, _, rs, q, fun c h1 H1 q1 rs1 k1 => ?_⟩
    cases c with
    | true => exact ⟨σD, h1, QD, rs1, q1, p.after k1⟩
    | false => exact ⟨σD, h1, QD, rs1, q1, p.after k1⟩
theorem de_one {op} (h : DE X a ta) : DE X (.BoolOp op [a] pos) ta := pe_one h
theorem de_and (ha : DE X a ta) (hb : DE X (.BoolOp .And (b :: rest) pos) tb) : DE X (.BoolOp .And (a :: b :: rest) pos) (dAndV ta tb) :=
  (pe_and ha hb).imp fun σ H Q ⟨σD, h, QD, rs, q, p⟩ => by
    refine ⟨σD, h, _, rs, q, fun d h1 v H1 q1 rs1 r1 k1 => ?_⟩
    cases d with
    | bl c =>
      obtain rfl := rep_bl r1
      refine ⟨c, rfl, ?_⟩
      cases c with
      | true => exact ⟨σD, h1, QD, rs1, q1, p.after k1⟩
      | false => exact p _ h1 _ H1 q1 rs1 r1 k1
    | _ => exact q1.elim
theorem de_or (ha : DE X a ta) (hb : DE X (.BoolOp .Or (b :: rest) pos) tb) : DE X (.BoolOp .Or (a :: b :: rest) pos) (dOrV ta tb) :=
  (pe_or ha hb).imp fun σ H Q ⟨σD, h, QD, rs, q, p⟩ => by
    refine ⟨σD, h, _, rs, q, fun d h1 v H1 q1 rs1 r1 k1 => ?_⟩
    cases d with
    | bl c =>
      obtain rfl := rep_bl r1
      refine ⟨c, rfl, ?_⟩
      cases c with
      | false => exact ⟨σD, h1, QD, rs1, q1, p.after k1⟩
      | true => exact p _ h1 _ H1 q1 rs1 r1 k1
    | _ => exact q1.elim
theorem de_not (ha : DE X a ta) : DE X (.UnaryOp .Not a pos) (dNotV ta) :=
  (pe_not ha).imp fun σ H Q ⟨σD, h, QD, rs, q, p⟩ => by
    refine ⟨σD, h, _, rs, q, fun d h1 v H1 q1 rs1 r1 k1 => ?_⟩
    cases d with
    | bl c =>
      obtain rfl := rep_bl r1
      exact ⟨c, rfl, p _ h1 _ H1 q1 rs1 (by simp [Rep]) k1⟩
    | _ => exact q1.elim
end

/-! ### targets -/
abbrev DTG := D → DS → DH → (DS → DH → Prop) → Prop
abbrev DTGs := List D → DS → DH → (DS → DH → Prop) → Prop
/-- the slots of `is` alone are written -/
def Wr (is : List Nat) (σ σ' : St) : Prop := ∀ vs : List Nat, (∀ i ∈ is, i ∈ vs) → wipe σ' vs = wipe σ vs
def LG (K : PySem.W.Frag) (is : List Nat) (g : DTG) : TG := fun v σ H Q => ∃ d σD h QD, RS K σD h σ H ∧ Rep K H d v ∧ g d σD h QD ∧ ∀ σD' h' σ' H', QD σD' h' → RS K σD' h' σ' H' → Keep h H h' H' → Wr is σ σ' → Q σ' H'
def LGs (K : PySem.W.Frag) (is : List Nat) (g : DTGs) : TGs := fun v σ H Q => ∃ d σD h QD, RS K σD h σ H ∧ Reps K H d v ∧ g d σD h QD ∧ ∀ σD' h' σ' H', QD σD' h' → RS K σD' h' σ' H' → Keep h H h' H' → Wr is σ σ' → Q σ' H'
abbrev DG (X : Cx) (tg : Expr) (is : List Nat) (g : DTG) : Prop := PG X tg (LG X.K is g)
abbrev DGs (X : Cx) (tg : List Expr) (is : List Nat) (g : DTGs) : Prop := PGs X tg (LGs X.K is g)
theorem _root_.L2.PG.imp {X : Cx} {e : Expr} {t t' : TG} (p : PG X e t) (i : ∀ v σ H Q, t' v σ H Q → t v σ H Q) : PG X e t' := ⟨fun pins s σ H v u Q I r q => p.run pins s σ H v u Q I r (i _ _ _ _ q)⟩
theorem _root_.L2.PGs.imp {X : Cx} {e : List Expr} {t t' : TGs} (p : PGs X e t) (i : ∀ v σ H Q, t' v σ H Q → t v σ H Q) : PGs X e t' := ⟨fun pins s σ H v u Q I r q => p.run pins s σ H v u Q I r (i _ _ _ _ q)⟩
theorem wipe_get : ∀ (vs : List Nat) (σ : St) (j : Nat), (wipe σ vs)[j]? = if j ∈ vs ∧ j < σ.length then some none else σ[j]?
  | [], σ, j => by simp [wipe]
  | v :: vs, σ, j => by
    have ln : (wipe σ vs).length = σ.length := by
      clear j
      induction vs with
      | nil => rfl
      | cons w ws ih => simp [wipe, ih]
    unfold wipe
    rw [List.getElem?_set]
    by_cases e : v = j
    · subst e
      rw [if_pos rfl, ln]
      by_cases l : v < σ.length
      · rw [if_pos l, if_pos ⟨by simp, l⟩]
      · rw [if_neg l, if_neg (fun z => l z.2)]
        simp at l; simp [l]
    · rw [if_neg e, wipe_get vs σ j]
      have : (j ∈ v :: vs) ↔ j ∈ vs := by
        rw [List.mem_cons]; constructor
        · rintro (z | z)
          · exact absurd z.symm e
          · exact z
        · exact .inr
      simp only [this]
theorem Wr.set (i : Nat) (x : Option V) (σ : St) : Wr [i] σ (σ.set i x) := by
  intro vs hv
  have hi : i ∈ vs := hv i (by simp)
  refine List.ext_getElem? fun j => ?_
  rw [wipe_get, wipe_get, List.length_set, List.getElem?_set]
  by_cases e : i = j
  · subst e
    by_cases l : i < σ.length
    · rw [if_pos ⟨hi, l⟩, if_pos ⟨hi, l⟩]
    · simp [l]
  · rw [if_neg e]
theorem Wr.refl (is : List Nat) (σ : St) : Wr is σ σ := fun _ _ => rfl
theorem Wr.trans {is js : List Nat} {σ σ1 σ2 : St} (a : Wr is σ σ1) (b : Wr js σ1 σ2) : Wr (is ++ js) σ σ2 := fun vs h =>
  (b vs fun i hi => h i (by simp [hi])).trans (a vs fun i hi => h i (by simp [hi]))
def dgName (i : Nat) : DTG := fun d σ h Q => Q (σ.set i (some d)) h
def dgNil : DTGs := fun ds σ h Q => match ds with
  | [] => Q σ h
  | _ => False
def dgCons (g : DTG) (gs : DTGs) : DTGs := fun ds σ h Q => match ds with
  | d :: r => g d σ h fun σ1 h1 => gs r σ1 h1 Q
  | [] => False
def dgTup (n : Nat) (gs : DTGs) : DTG := fun d σ h Q => match d with
  | .tup ds => ds.length = n ∧ gs ds σ h Q
  | _ => False
section
variable {X : Cx} {e : Expr} {es : List Expr} {is js : List Nat} {g : DTG} {gs : DTGs} {pos : Pos}
theorem dg_name (i : Nat) {x : Str} (hN : X.N.Nodup) (hi : X.N[i]? = some x) (hx : Loc X.env.scope x) (hf : X.fn x = true ∨ X.env.scope.names.lookup x = some .local := by first | exact .inl rfl | exact .inr rfl | assumption) : DG X (.Name x pos) [i] (dgName i) :=
  (pg_name (i := i) hN hi hx hf).imp fun v σ H Q ⟨d, σD, h, QD, rs, r, q, p⟩ => p _ h _ H q ⟨SRep.set (show ORep X.K H (some d) (some v) from r) rs.sl, rs.hr⟩ .refl (.set i _ σ)
theorem dgs_nil : DGs X [] [] dgNil := pgs_nil.imp fun v σ H Q ⟨d, σD, h, QD, rs, r, q, p⟩ => by
  cases d with
  | nil => exact ⟨reps_nil r, p σD h σ H q rs .refl (.refl _ _)⟩
  | cons _ _ => exact q.elim
theorem dgs_cons (h1 : DG X e is g) (h2 : DGs X es js gs) (hs : (assignEach (e :: es) X.env).map (·.2) = assign e X.env :: (assignEach es X.env).map (·.2) := by rfl) : DGs X (e :: es) (is ++ js) (dgCons g gs) :=
  (pgs_cons h1 h2 hs).imp fun v σ H Q ⟨d, σD, h, QD, rs, r, q, p⟩ => by
    cases d with
    | nil => exact q.elim
    | cons d ds =>
      obtain ⟨w, r', rfl, a, b⟩ := reps_cons r
      refine ⟨w, r', rfl, d, σD, h, _, rs, a, q, fun σD1 h1 σ1 H1 q1 rs1 k1 o1 => ?_⟩
      exact ⟨ds, σD1, h1, _, rs1, b.mono (k1.tup rs.hr), q1, fun σD2 h2 σ2 H2 q2 rs2 k2 o2 => p σD2 h2 σ2 H2 q2 rs2 (k1.trans k2) (o1.trans o2)⟩
theorem dg_tup {k n : Nat} (hc : X.calm = true) (h : DGs X es is gs) (hn : (assignEach es X.env).length = n := by rfl) (hst : (assignEach es X.env).findIdx? (·.1) = none := by rfl) : DG X (.Tuple es k pos) is (dgTup n gs) :=
  (pg_tup hc h hn hst).imp fun v σ H Q ⟨d, σD, h, QD, rs, r, q, p⟩ => by
    cases d with
    | tup ds =>
      obtain ⟨ln, q⟩ := q
      obtain ⟨a, vs, rfl, s, r⟩ := rep_tup r
      exact ⟨a, vs, rfl, s, by rw [← r.len]; exact ln, ds, σD, h, QD, rs, r, q, p⟩
    | _ => exact q.elim
end

/-! ### statements -/
def dNext : DTS := fun D σ h => D.nx σ h
def dSeq (t u : DTS) : DTS := fun D σ h => t { D with nx := u D } σ h
def dBreak : DTS := fun D σ h => D.bk σ h
def dCont : DTS := fun D σ h => D.ct σ h
def dDrop (te : DTE) : DTS := fun D σ h => te σ h fun _ h1 => D.nx σ h1
def dRet (te : DTE) : DTS := fun D σ h => te σ h D.rt
def dRetN : DTS := fun D _ h => D.rt .non h
def dIfS (c : DTT) (t u : DTS) : DTS := fun D σ h => c σ h fun b h1 => if b = true then t D σ h1 else u D σ h1
def dNever : DTS := fun _ _ _ => False
def dAsg (te : DTE) (g : DTG) : DTS := fun D σ h => te σ h fun x h1 => g x σ h1 D.nx
section
variable {X : Cx} {st : Stmt} {rest : List Stmt} {t u : DTS} {e : Expr} {te : DTE} {pos : Pos}
theorem dss_nil : DSs X [] dNext := pss_nil.imp fun Ds σ H ⟨σD, h, DD, rs, q, p⟩ => p.nx σD h σ H q rs .refl
theorem dss_cons (h1 : DSt X st t) (h2 : DSs X rest u) : DSs X (st :: rest) (dSeq t u) := (pss_cons h1 h2).imp fun Ds σ H ⟨σD, h, DD, rs, q, p⟩ =>
  ⟨σD, h, _, rs, q, fun σD1 h1 σ1 H1 q1 rs1 k1 => ⟨σD1, h1, DD, rs1, q1, p.after k1⟩, p.bk, p.ct, p.rt⟩
theorem dss_one (h1 : DSt X st t) : DSs X [st] t := pss_one h1
theorem ds_pass : DSt X (.Pass pos) dNext := ps_pass.imp fun Ds σ H ⟨σD, h, DD, rs, q, p⟩ => p.nx σD h σ H q rs .refl
theorem ds_break : DSt X (.Break pos) dBreak := ps_break.imp fun Ds σ H ⟨σD, h, DD, rs, q, p⟩ => p.bk σD h σ H q rs .refl
theorem ds_continue : DSt X (.Continue pos) dCont := ps_continue.imp fun Ds σ H ⟨σD, h, DD, rs, q, p⟩ => p.ct σD h σ H q rs .refl
theorem ds_expr (he : DE X e te) (hs : swapsWith e none pos.line X.env = pure false := by rfl) : DSt X (.Expr e pos) (dDrop te) := (ps_expr he hs).imp fun Ds σ H ⟨σD, h, DD, rs, q, p⟩ =>
  ⟨σD, h, _, rs, q, fun d h1 v H1 q1 rs1 r1 k1 => p.nx σD h1 σ H1 q1 rs1 k1⟩
theorem ds_ret (he : DE X e te) : DSt X (.Return (some e) pos) (dRet te) := (ps_ret he).imp fun Ds σ H ⟨σD, h, DD, rs, q, p⟩ =>
  ⟨σD, h, _, rs, q, fun d h1 v H1 q1 rs1 r1 k1 => p.rt d h1 v H1 q1 rs1.hr r1 k1⟩
theorem ds_retN : DSt X (.Return none pos) dRetN := ps_retN.imp fun Ds σ H ⟨σD, h, DD, rs, q, p⟩ => p.rt .non h .non H q rs.hr (by simp [Rep]) .refl
theorem ds_if {c : Expr} {a b : List Stmt} {tc : DTT} (hc : DT X c tc) (ha : DSs X a t) (hb : DSs X b u) : DSt X (.If c a b pos) (dIfS tc t u) := (ps_if hc ha hb).imp fun Ds σ H ⟨σD, h, DD, rs, q, p⟩ => by
  refine ⟨σD, h, _, rs, q, fun c h1 H1 q1 rs1 k1 => ?_⟩
  cases c with
  | true => exact ⟨σD, h1, DD, rs1, q1, p.after k1⟩
  | false => exact ⟨σD, h1, DD, rs1, q1, p.after k1⟩
theorem ds_never : DSt X st dNever := ps_never.imp fun Ds σ H ⟨σD, h, DD, rs, q, p⟩ => q
theorem dss_never {sts : List Stmt} : DSs X sts dNever := pss_never.imp fun Ds σ H ⟨σD, h, DD, rs, q, p⟩ => q
theorem le_asg {K : PySem.W.Frag} {is : List Nat} {g : DTG} (Ds : Ends) (σ : St) (H : Hp) (q : LS K (dAsg te g) Ds σ H) : tAsg (LE K te) (LG K is g) Ds σ H := by
  obtain ⟨σD, h, DD, rs, q, p⟩ := q
  exact ⟨σD, h, _, rs, q, fun d h1 v H1 q1 rs1 r1 k1 => ⟨d, σD, h1, _, rs1, r1, q1, fun σD2 h2 σ2 H2 q2 rs2 k2 _ => p.nx σD2 h2 σ2 H2 q2 rs2 (k1.trans k2)⟩⟩
theorem ds_asg {tg : Expr} {g : DTG} {is : List Nat} (he : DE X e te) (hg : DG X tg is g) (hs : swapsWithSole [tg] e pos.line X.env = pure false := by rfl) (hw : swappedStores [tg] e X.env = pure none := by rfl)
    (h1 : (assignEach [tg] X.env).map (·.2) = [assign tg X.env] := by rfl) : DSt X (.Assign [tg] e pos) (dAsg te g) := (ps_asg he hg hs hw h1).imp le_asg
theorem ds_set (i : Nat) {x : Str} {pos' : Pos} (hN : X.N.Nodup) (hi : X.N[i]? = some x) (hx : Loc X.env.scope x) (he : DE X e te) (hs : swapsWith e (some (.Name x pos')) pos.line X.env = pure false := by rfl) (hf : X.fn x = true ∨ X.env.scope.names.lookup x = some .local := by first | exact .inl rfl | exact .inr rfl | assumption) :
    DSt X (.Assign [.Name x pos'] e pos) (dAsg te (dgName i)) := (ps_set hN hi hx he hs hf).imp fun Ds σ H ⟨σD, h, DD, rs, q, p⟩ =>
  ⟨σD, h, _, rs, q, fun d h1 v H1 q1 rs1 r1 k1 => p.nx _ h1 _ H1 q1 ⟨SRep.set (show ORep X.K H1 (some d) (some v) from r1) rs1.sl, rs1.hr⟩ k1⟩
/-- a, b = e1, e2 -/
def dPar (i j : Nat) (ta : DTA) : DTS := fun D σ h => ta σ h fun ds h1 => match ds with
  | [d, e] => D.nx ((σ.set i (some d)).set j (some e)) h1
  | _ => False
theorem ds_par (i j : Nat) {x y : Str} {a b : Expr} {ta : DTA} {px py pt : Pos} {kt k2 pt2} (hc : X.calm = true) (hN : X.N.Nodup) (hi : X.N[i]? = some x) (hj : X.N[j]? = some y) (hij : i ≠ j)
    (hx : X.env.scope.names.lookup x = some .local) (hy : X.env.scope.names.lookup y = some .local) (ha : DA X [a, b] ta)
    (hw : swappedStores [.Tuple [.Name x px, .Name y py] kt pt] (.Tuple [a, b] k2 pt2) X.env = pure (some [x, y]))
    (hs : swapsWithSole [.Tuple [.Name x px, .Name y py] kt pt] (.Tuple [a, b] k2 pt2) pos.line X.env = pure false := by rfl) :
    DSt X (.Assign [.Tuple [.Name x px, .Name y py] kt pt] (.Tuple [a, b] k2 pt2) pos) (dPar i j ta) :=
  (ps_par hc hN hi hj hij hx hy ha hw hs).imp fun Ds σ H ⟨σD, h, DD, rs, q, p⟩ => by
    refine ⟨σD, h, _, rs, q, fun ds h1 vs H1 q1 rs1 r1 k1 => ?_⟩
    match ds, r1, q1 with
    | [d, e], r1, q1 =>
      obtain ⟨v, w, rfl, rv, rw⟩ := reps_two r1
      exact ⟨v, w, rfl, p.nx _ h1 _ H1 q1 ⟨SRep.set (show ORep X.K H1 (some e) (some w) from rw) (SRep.set (show ORep X.K H1 (some d) (some v) from rv) rs1.sl), rs1.hr⟩ k1⟩
    | [], _, q1 => exact q1.elim
    | [_], _, q1 => exact q1.elim
    | _ :: _ :: _ :: _, _, q1 => exact q1.elim
/-- x += e -/
def dAug (i : Nat) (r : DR2) (te : DTE) : DTS := fun D σ h => match σ[i]? with
  | some (some x) => te σ h fun y h1 => r x y h1 fun z h2 => D.nx (σ.set i (some z)) h2
  | _ => False
theorem ds_aug (i : Nat) {x : Str} {op : Operator} {ti : TIp} {rd : DR2} {pos' : Pos} (ho : PIp X op ti) (ad : Ad2 X.K rd ti) (hN : X.N.Nodup) (hi : X.N[i]? = some x) (hx : Loc X.env.scope x) (he : DE X e te) (hf : X.fn x = true ∨ X.env.scope.names.lookup x = some .local := by first | exact .inl rfl | exact .inr rfl | assumption) :
    DSt X (.AugAssign (.Name x pos') op e pos) (dAug i rd te) := (ps_aug hN hi hx he ho hf).imp fun Ds σ H ⟨σD, h, DD, rs, q, p⟩ => by
  unfold dAug at q
  split at q
  · rename_i d e1
    obtain ⟨v, hv, r⟩ := rs.sl.get e1
    refine ⟨v, hv, σD, h, _, rs, q, fun d1 h1 v1 H1 q1 rs1 r1 k1 => ?_⟩
    exact ad σD σ h1 H1 d d1 v v1 _ _ rs1 (r.mono (k1.tup rs.hr)) r1 q1 fun d2 h2 v2 H2 q2 rs2 r2 k2 => p.nx _ h2 _ H2 q2 ⟨SRep.set (show ORep X.K H2 (some d2) (some v2) from r2) rs2.sl, rs2.hr⟩ (k1.trans k2)
  · exact q.elim

/-! ### while -/
def dWhile (c : DTT) (tb : DTS) : DTS := fun D σ h => ∃ W : Nat → DS → DH → Prop, (∃ m, W m σ h) ∧ ∀ m σ h, W m σ h →
  c σ h fun b h1 => if b = true then tb { D with nx := fun σ' h' => ∃ m', m' < m ∧ W m' σ' h', ct := fun σ' h' => ∃ m', m' < m ∧ W m' σ' h', bk := D.nx } σ h1 else D.nx σ h1
theorem ds_while {c : Expr} {body : List Stmt} {tc : DTT} {tb : DTS} (hp : PassesOwn (model X.prog X.w) X.A X.env X.xe) (hc : DT X c tc) (hb : DSs X body tb) : DSt X (.While c body [] pos) (dWhile tc tb) :=
  (ps_while hp hc hb).imp fun Ds σ0 H0 ⟨σD0, h0, DD, rs0, ⟨W, ⟨m0, w0⟩, turn⟩, p⟩ => by
    refine ⟨fun m σ H => ∃ σD h, RS X.K σD h σ H ∧ W m σD h ∧ Keep h0 H0 h H, ⟨m0, σD0, h0, rs0, w0, .refl⟩, ?_⟩
    rintro m σ H ⟨σD, h, rs, w, k⟩
    refine ⟨σD, h, _, rs, turn m σD h w, fun c h1 H1 q1 rs1 k1 => ?_⟩
    cases c with
    | true =>
      rw [if_pos rfl] at q1 ⊢
      refine ⟨fun σ' H' => ∃ m', m' < m ∧ ∃ σD h, RS X.K σD h σ' H' ∧ W m' σD h ∧ Keep h0 H0 h H', fun σ' H' z => z, σD, h1, _, rs1, q1, ?_, ?_, ?_, ?_⟩
      · rintro σD' h' σ' H' ⟨m', lt, w'⟩ rs' k'
        exact ⟨m', lt, σD', h', rs', w', k.trans (k1.trans k')⟩
      · intro σD' h' σ' H' q' rs' k'
        exact p.nx σD' h' σ' H' q' rs' (k.trans (k1.trans k'))
      · rintro σD' h' σ' H' ⟨m', lt, w'⟩ rs' k'
        exact ⟨m', lt, σD', h', rs', w', k.trans (k1.trans k')⟩
      · intro d h' v H' q' hr' r' k'
        exact p.rt d h' v H' q' hr' r' (k.trans (k1.trans k'))
    | false => exact p.nx σD h1 σ H1 q1 rs1 (k.trans k1)
end
end DL

namespace PySem
open Sem (wp)
theorem meets_enumerate_newB1 {v : Value} {o : Obj} {H : Heap → Prop} (B : Begins v o H) :
    Meets (Builtin.«enumerate.__new__» ⟨[.type "enumerate", v], []⟩) (fun _ R s => H s.heap ∧
      R (.ok (.ret (.ref (s.heap.push o).objs.size))) { s with heap := (s.heap.push o).push { cls := .type "enumerate", data := .fields #[.none, .bool false, .ref s.heap.objs.size, rawInt 0, .none, .none] } }) :=
  .of_wp fun prog w A R s h => by
    obtain ⟨hp, g, d, tk, os⟩ := s; obtain ⟨h1, h⟩ := h
    have hsub := sub_enumerate
    have q1 : ∀ {A' : Around} {E : Value → Shared → Prop} {Q : Value → Shared → Prop}, Q (.ref hp.objs.size) ⟨hp.push o, g, d, tk, os⟩ → wpAny (model prog w) A' (pyIter v) Q E ⟨hp, g, d, tk, os⟩ :=
      fun q => B.iter prog w _ _ ⟨hp, g, d, tk, os⟩ _ h1 q
    wp_walk
    refine wpAny_stack_any fun st => wpAny_pure ?_
    split
    · rename_i c _ _ _ _ _
      cases (c == Value.type "enumerate")
      · wp_walk using q1
        exact ⟨_, rfl, h⟩
      · wp_walk using q1
        exact ⟨_, rfl, h⟩
    · wp_walk using q1
      exact ⟨_, rfl, h⟩
section
variable {prog : Program} {w : World} {A : Around} {E : Value → Shared → Prop} {s : Shared}
/-- enumerate(v): its two new cells -/
theorem enum_begins1 {v : Value} {o : Obj} {H : Heap → Prop} {Q : Value → Shared → Prop} (B : Begins v o H) (h1 : H s.heap)
    (h : ∀ h', IsEnum h' (s.heap.objs.size + 1) s.heap.objs.size 0 .none → h'.get? s.heap.objs.size = some o → h'.objs.size = s.heap.objs.size + 2 →
      (∀ b o, s.heap.get? b = some o → h'.get? b = some o) → Q (.ref (s.heap.objs.size + 1)) { s with heap := h' }) :
    wpAny (model prog w) A (call (.type "enumerate") [v]) Q E s := by
  refine callType_new F.called_enumerate (by decide) (F.typeCall_enumerate_1 _) (F.newCall_enumerate_1 _) (fun obj => F.args_object_init_2 obj _) F.entry_enumerate_new
    (meets_enumerate_newB1 B) ⟨h1, ?_⟩
  have hz : (s.heap.push o).objs.size = s.heap.objs.size + 1 := Heap.size_push ..
  show _ ∧ _
  rw [hz]
  have he : IsEnum ((s.heap.push o).push { cls := .type "enumerate", data := .fields #[.none, .bool false, .ref s.heap.objs.size, rawInt 0, .none, .none] }) (s.heap.objs.size + 1) s.heap.objs.size 0 .none := by
    have := Heap.get?_push_size (s.heap.push o) (o := { cls := .type "enumerate", data := .fields #[.none, .bool false, .ref s.heap.objs.size, rawInt 0, .none, .none] }) rfl
    rw [hz] at this; exact this
  refine ⟨⟨_, he, rfl⟩, h _ he (Heap.get?_push_of_some _ (Heap.get?_push_size _ B.free)) (by rw [Heap.size_push, hz]) fun b o x => Heap.get?_push_of_some _ (Heap.get?_push_of_some _ x)⟩
end
end PySem
namespace DL
open PySem PySem.Spec L2
open PyProof.Rows hiding St

/-! ### lists and tuples alike, as what is walked -/
/-- t: a tuple; else a list -/
def SqS (K : PySem.W.Frag) (H : Hp) (t : Bool) (a : Addr) (xs : List V) : Prop := if t = true then SqT K H a xs else SqL K H a xs
def IterAt (h : Heap) (t : Bool) (it a : Addr) (i : Nat) : Prop := if t = true then h.IsTupleIter it a i else h.IsListIter it a i
def PlainS (h : Heap) (t : Bool) (a : Addr) (items : Array Value) : Prop := if t = true then h.IsTuple a items else h.IsList a items
theorem draws_s {prog : Program} {w : World} {A : Around} (hh : A.handled = none) (t : Bool) (it a : Addr) (hne : a ≠ it) (items : Array Value) :
    Draws prog w A it [it, a] items.size (fun i v => items[i]? = some v) (fun i h => IterAt h t it a i ∧ PlainS h t a items) := by
  cases t with
  | true => exact Draws.tuple hh it a hne items
  | false => exact Draws.list hh it a hne items
def iterObj (t : Bool) (a : Addr) : Obj := if t = true then { cls := .type "tuple_iterator", data := .fields #[.ref a, .int 0 0] } else { cls := .type "list_iterator", data := .fields #[.ref a, .int 0 0] }
theorem begins_s (t : Bool) (a : Addr) (items : Array Value) : Begins (.ref a) (iterObj t a) fun h => PlainS h t a items := by
  cases t with
  | true => exact begins_tuple a items
  | false => exact begins_list a items
theorem iterAt_mk {h : Heap} {t : Bool} {it a : Addr} (e : h.get? it = some (iterObj t a)) : IterAt h t it a 0 := by
  cases t with
  | true => exact ⟨_, e, rfl, rfl⟩
  | false => exact ⟨_, e, rfl, rfl⟩
theorem IterAt.obj {h : Heap} {t : Bool} {it a : Addr} {i : Nat} (q : IterAt h t it a i) : ∃ o, h.get? it = some o ∧ ∀ v, o.data ≠ .cell v := by
  cases t with
  | true =>
    obtain ⟨o, e, c, d⟩ := q
    exact ⟨o, e, fun v z => by rw [d] at z; cases z⟩
  | false =>
    obtain ⟨o, e, c, d⟩ := q
    exact ⟨o, e, fun v z => by rw [d] at z; cases z⟩
theorem IterAt.at' {h h' : Heap} {t : Bool} {it a : Addr} {i : Nat} (q : IterAt h t it a i) (k : ∀ o, h.get? it = some o → h'.get? it = some o) : IterAt h' t it a i := by
  cases t with
  | true => exact Heap.IsTupleIter.at q k
  | false => exact Heap.IsListIter.at q k
section
variable {X : Cx} {pins : List (Addr × Obj)} {σ : St} {H : Hp} {s : Shared} {a : Addr} {xs ys : List V} {t : Bool}
theorem inv_s (I : Inv X pins σ H s) (h : SqS X.K H t a xs) : ∃ its : List Value, Vals xs its ∧ PlainS s.heap t a its.toArray ∧ xs.length ≤ sizeLine ∧ a < s.heap.objs.size := by
  cases t with
  | true =>
    obtain ⟨its, rv, p, z⟩ := I.tuple h
    exact ⟨its, rv, p, z, p.lt⟩
  | false =>
    obtain ⟨its, rv, p, z⟩ := I.list h
    exact ⟨its, rv, p.isList, z, p.lt⟩
theorem inv_inj (I : Inv X pins σ H s) (h : SqS X.K H t a xs) (h' : SqS X.K H t a ys) : xs = ys := by
  cases t with
  | true => exact I.tuple_inj h h'
  | false => exact I.list_inj h h'
end
/-- its items at each turn -/
def Its1 (K : PySem.W.Frag) (t : Bool) (a : Addr) : It :=
  ⟨fun i H => ∃ xs x, SqS K H t a xs ∧ xs[i]? = some x, fun i H x H' => H' = H ∧ ∀ xs, SqS K H t a xs → xs[i]? = some x, fun i H => ∃ xs, SqS K H t a xs ∧ xs.length ≤ i⟩
theorem turn_s {P : Program} {w : World} {K : PySem.W.Frag} {tg : Expr} (t : Bool) (a it : Addr) : Turn P w K tg (Its1 K t a) [it] it (fun i h => IterAt h t it a i) := by
  cases t with
  | true => exact turn_tuple a it
  | false => exact turn_list a it
def iSeq (K : PySem.W.Frag) (tl : TE) : TI := fun σ H R => tl σ H fun x H1 => ∃ a t, x = .ref a ∧ (∃ xs, SqS K H1 t a xs) ∧ R (Its1 K t a) H1
theorem pi_seq {X : Cx} {tg l : Expr} {tl : TE} (hl : PE X l tl) : PI X tg l (iSeq X.K tl) := by
  refine ⟨fun pins s σ H R I h => ?_⟩
  refine thn (hl.run pins s σ H _ I h) fun v s1 ⟨x, H1, I1, r1, q1⟩ => ?_
  obtain ⟨a, t, e, ⟨xs, hq⟩, q⟩ := q1
  subst e
  cases r1
  obtain ⟨its, rv, p, hz, _⟩ := inv_s I1 hq
  refine (begins_s t a its.toArray).iter _ _ _ _ _ _ p ?_
  refine ⟨s1.heap.objs.size, [s1.heap.objs.size], _, _, H1, rfl, I1.kept (t' := s1.toks) fun b o e => Heap.get?_push_of_some _ e, turn_s t a _, iterAt_mk (Heap.get?_push_size _ (begins_s t a its.toArray).free), fun b hb => ?_, q⟩
  have e : b = s1.heap.objs.size := by simpa using hb
  subst e
  exact I1.fpOk (Nat.le_refl _) (I1.hok.fresh (Nat.le_refl _))

/-! ### zip of two -/
def Itz2 (K : PySem.W.Frag) (t1 t2 : Bool) (a b : Addr) : It :=
  ⟨fun i H => ∃ (xs ys : List V) (x y : V), SqS K H t1 a xs ∧ SqS K H t2 b ys ∧ xs[i]? = some x ∧ ys[i]? = some y,
    fun i H v H' => ∃ T x y, v = .ref T ∧ H T = none ∧ H' = upd H T (.tup [x, y]) ∧ (∀ xs, SqS K H t1 a xs → xs[i]? = some x) ∧ ∀ ys, SqS K H t2 b ys → ys[i]? = some y,
    fun i H => ∃ xs ys : List V, SqS K H t1 a xs ∧ SqS K H t2 b ys ∧ i = min xs.length ys.length⟩
theorem turn_zip2 {P : Program} {w : World} {K : PySem.W.Frag} {elts : List Expr} {kk : Nat} {tpos : Pos} {t1 t2 : Bool} {a b z TI TO i1 i2 : Addr} (S : ZipSep2 z TI TO i1 i2 [i1, a] [i2, b]) (n1 : a ≠ i1) (n2 : b ≠ i2) :
    Turn P w K (.Tuple elts kk tpos) (Itz2 K t1 t2 a b) [z, TI, TO, i1, i2] z (fun i h => IsZip h z TI TO .none ∧ IsTupOf2 h TI (.ref i1) (.ref i2) ∧ (∃ a1 a2, IsTupOf2 h TO a1 a2) ∧ IterAt h t1 i1 a i ∧ IterAt h t2 i2 b i) where
  mem := by simp
  obj := fun i h st c hc => by
    obtain ⟨hz, hTI, ⟨x, y, hTO⟩, h1, h2⟩ := st
    have e' : c = z ∨ c = TI ∨ c = TO ∨ c = i1 ∨ c = i2 := by simpa using hc
    rcases e' with q | q | q | q | q
    · rw [q]; exact ⟨_, hz, fun v q => nomatch q⟩
    · rw [q]; exact ⟨_, hTI, fun v q => nomatch q⟩
    · rw [q]; exact ⟨_, hTO, fun v q => nomatch q⟩
    · rw [q]; exact h1.obj
    · rw [q]; exact h2.obj
  keep := fun i h h' st k => by
    obtain ⟨hz, hTI, ⟨x, y, hTO⟩, h1, h2⟩ := st
    exact ⟨k z (by simp) _ hz, k TI (by simp) _ hTI, ⟨x, y, k TO (by simp) _ hTO⟩, h1.at' fun o q => k i1 (by simp) o q, h2.at' fun o q => k i2 (by simp) o q⟩
  item := by
    intro X hP hw hK hc i pins s σ H E I hf st hg
    subst hP hw hK
    obtain ⟨hz, hTI, hTO, h1, h2⟩ := id st
    obtain ⟨xs, ys, x, y, hqx, hqy, hx, hy⟩ := hg
    obtain ⟨its, rv, p, _, _⟩ := inv_s I hqx
    obtain ⟨its2, rv2, p2, _, _⟩ := inv_s I hqy
    obtain ⟨u, hu, ru⟩ := rv.get hx
    obtain ⟨u2, hu2, ru2⟩ := rv2.get hy
    have hh : X.A.in1.handled = none := I.ok.hd hc
    have G := GoesN.zip2 (prog := X.prog) (w := X.w) (A := X.A) (elts := elts) (x1 := kk) (pos := tpos) S (draws_s hh t1 i1 a n1 its.toArray) (draws_s hh t2 i2 b n2 its2.toArray)
    have hlt : i < min its.toArray.size its2.toArray.size := by
      have l1 := (List.getElem?_eq_some_iff.mp hu).1
      have l2 := (List.getElem?_eq_some_iff.mp hu2).1
      simp; omega
    refine wpAny_mono (G.goes i s (fun v s2 => ∃ x H', Inv X pins σ H' s2 ∧ RelV x v ∧ (Itz2 X.K t1 t2 a b).yld i H x H' ∧ (IsZip s2.heap z TI TO .none ∧ IsTupOf2 s2.heap TI (.ref i1) (.ref i2) ∧ (∃ a1 a2, IsTupOf2 s2.heap TO a1 a2) ∧ IterAt s2.heap t1 i1 a (i + 1) ∧ IterAt s2.heap t2 i2 b (i + 1)) ∧ ∀ c ∈ [z, TI, TO, i1, i2], H' c = none) E hlt ⟨hz, hTI, hTO, ⟨h1, p⟩, h2, p2⟩ fun v h' tk Y st' old htk => ?_) (fun r s1 ⟨v, e, q⟩ => ⟨v, e, q⟩) fun _ _ e => e
    obtain ⟨T, v1, v2, rfl, hT, e1, e2, hTT⟩ := Y
    obtain ⟨hz', hTI', hTO', ⟨h1', _⟩, h2', _⟩ := st'
    obtain rfl : v1 = u := by simpa [hu] using e1.symm
    obtain rfl : v2 = u2 := by simpa [hu2] using e2.symm
    have new : ObjOk X.prog X.w (upd H T (.tup [x, y])) h' T (.tup [x, y]) := ⟨by show 2 ≤ sizeLine; decide, [v1, v2], .cons ru (.cons ru2 .nil), hTT⟩
    have I1 : Inv X pins σ (upd H T (.tup [x, y])) { s with heap := h', toks := tk } :=
      I.turnedNew (t' := tk) (ch := [z, TI, TO, i1, i2]) (fun c o hb q => old c o (fun q' => hb (by simp at q' ⊢; rcases q' with q' | q' | q' | q' <;> simp [q'])) q) hf hT new
    refine ⟨.ref T, _, I1, rfl, ⟨T, x, y, rfl, I.hok.fresh hT, rfl, fun l hl => by rw [inv_inj I hl hqx]; exact hx, fun l hl => by rw [inv_inj I hl hqy]; exact hy⟩, ⟨hz', hTI', hTO', h1', h2'⟩, fun c hcm => ?_⟩
    have hlt : c < s.heap.objs.size := by
      have e' : c = z ∨ c = TI ∨ c = TO ∨ c = i1 ∨ c = i2 := by simpa using hcm
      rcases e' with q | q | q | q | q
      · rw [q]; exact Heap.lt_size hz
      · rw [q]; exact Heap.lt_size hTI
      · rw [q]; obtain ⟨_, _, q⟩ := hTO; exact Heap.lt_size q
      · rw [q]; obtain ⟨_, e1, _⟩ := h1.obj; exact Heap.lt_size e1
      · rw [q]; obtain ⟨_, e2, _⟩ := h2.obj; exact Heap.lt_size e2
    rw [upd_ne (Nat.ne_of_lt (Nat.lt_of_lt_of_le hlt hT))]
    exact (hf c hcm).1
  done := by
    intro X hP hw hK hc i pins s σ H E I hf st hg
    subst hP hw hK
    obtain ⟨hz, hTI, hTO, h1, h2⟩ := id st
    obtain ⟨xs, ys, hqx, hqy, hend⟩ := hg
    obtain ⟨its, rv, p, _, _⟩ := inv_s I hqx
    obtain ⟨its2, rv2, p2, _, _⟩ := inv_s I hqy
    have l1 := rv.length
    have l2 := rv2.length
    have hh : X.A.in1.handled = none := I.ok.hd hc
    have G := GoesN.zip2 (prog := X.prog) (w := X.w) (A := X.A) (elts := elts) (x1 := kk) (pos := tpos) S (draws_s hh t1 i1 a n1 its.toArray) (draws_s hh t2 i2 b n2 its2.toArray)
    have e : min its.toArray.size its2.toArray.size = i := by simp; omega
    refine G.stops s (fun s1 => Inv X pins σ H s1) E (by rw [e]; exact ⟨hz, hTI, hTO, ⟨h1, p⟩, h2, p2⟩) fun h' tk old _ => ?_
    exact I.turnedL (t' := tk) (ch := [z, TI, TO, i1, i2]) (fun c o hb q => old c o (fun q' => hb (by simp at q' ⊢; rcases q' with q' | q' | q' | q' <;> simp [q'])) q) hf
  self := fun A i s Q E st h => wpAny_pyIter_zip st.1 h
def iZip2 (K : PySem.W.Frag) (ta : TA) : TI := fun σ H R => ta σ H fun vs H1 => ∃ a b t1 t2, vs = [.ref a, .ref b] ∧ (∃ xs, SqS K H1 t1 a xs) ∧ (∃ ys, SqS K H1 t2 b ys) ∧ R (Itz2 K t1 t2 a b) H1
theorem pi_zip2 {X : Cx} {e e2 : Expr} {ta : TA} {p pos tpos : Pos} {elts : List Expr} {kk : Nat} (hg : Gl X "zip") (hm : X.mg "zip" = none) (ha : PA X [e, e2] ta)
    (hs : starEach [e, e2] X.env = (false, eval e X.env) :: starEach [e2] X.env := by rfl) (hpl : (backTo pos (starEach [e2] X.env)).any (·.1) = false := by rfl) :
    PI X (.Tuple elts kk tpos) (.Call (.Name "zip" p) [e, e2] [] pos) (iZip2 X.K ta) := by
  refine ⟨fun pins s σ H R I h => ?_⟩
  refine Call_ (ld_blt I hg hm PyProof.Rows.boot_zip (PyProof.Rows.callWith_type1 (thn (ha.run pos pins s σ H _ I h) fun us s1 ⟨vs, H1, I1, r1, q1⟩ => ?_) hs hpl))
  obtain ⟨a, b, t1, t2, ex, ⟨xs, hqx⟩, ⟨ys, hqy⟩, q⟩ := q1
  subst ex
  obtain ⟨its, rv, p1, _, la⟩ := inv_s I1 hqx
  obtain ⟨its2, rv2, p2, _, lb⟩ := inv_s I1 hqy
  cases r1 with
  | cons r rr =>
    cases rr with
    | cons r' rr =>
      cases rr
      cases r
      cases r'
      refine zip_begins2 (begins_s t1 a its.toArray) (begins_s t2 b its2.toArray) p1 p2 fun h' hz hTI hTO h1 h2 hsz hk => wpAny_pyIter_zip hz ?_
      have I2 : Inv X pins σ H1 { s1 with heap := h' } := I1.kept (t' := s1.toks) hk
      refine ⟨s1.heap.objs.size + 4, [s1.heap.objs.size + 4, s1.heap.objs.size + 2, s1.heap.objs.size + 3, s1.heap.objs.size, s1.heap.objs.size + 1], _, _, H1, rfl, I2,
        turn_zip2 (t1 := t1) (t2 := t2) (zip_sep2 (fp1 := [a]) (fp2 := [b]) (by simpa using la) (by simpa using lb)) (Nat.ne_of_lt la) (Nat.ne_of_lt (Nat.lt_succ_of_lt lb)), ⟨hz, hTI, ⟨_, _, hTO⟩, iterAt_mk h1, iterAt_mk h2⟩, fun c hcm => ?_, q⟩
      have e' : c = s1.heap.objs.size + 4 ∨ c = s1.heap.objs.size + 2 ∨ c = s1.heap.objs.size + 3 ∨ c = s1.heap.objs.size ∨ c = s1.heap.objs.size + 1 := by simpa using hcm
      have hle : s1.heap.objs.size ≤ c := by
        rcases e' with z | z | z | z | z
        · rw [z]; exact Nat.le_add_right _ _
        · rw [z]; exact Nat.le_add_right _ _
        · rw [z]; exact Nat.le_add_right _ _
        · rw [z]; exact Nat.le_refl _
        · rw [z]; exact Nat.le_add_right _ _
      exact I1.fpOk hle (I1.hok.fresh hle)

/-! ### enumerate -/
def ItE (K : PySem.W.Frag) (t : Bool) (a : Addr) : It :=
  ⟨fun i H => ∃ (xs : List V) (x : V), SqS K H t a xs ∧ xs[i]? = some x,
    fun i H v H' => ∃ T x, v = .ref T ∧ H T = none ∧ H' = upd H T (.tup [.int (i : Nat), x]) ∧ ∀ xs, SqS K H t a xs → xs[i]? = some x,
    fun i H => ∃ xs : List V, SqS K H t a xs ∧ i = xs.length⟩
theorem turn_enumS {P : Program} {w : World} {K : PySem.W.Frag} {elts : List Expr} {kk : Nat} {tpos : Pos} {t : Bool} {a e it : Addr} (hei : e ≠ it) (hea : e ≠ a) (hai : a ≠ it) :
    Turn P w K (.Tuple elts kk tpos) (ItE K t a) [e, it] e (fun i h => (∃ old, IsEnum h e it ((i : Nat) : Int) old) ∧ IterAt h t it a i) where
  mem := by simp
  obj := fun i h st c hc => by
    obtain ⟨⟨old, he⟩, h1⟩ := st
    have e' : c = e ∨ c = it := by simpa using hc
    rcases e' with q | q
    · rw [q]; exact ⟨_, he, fun v q => nomatch q⟩
    · rw [q]; exact h1.obj
  keep := fun i h h' st k => by
    obtain ⟨⟨old, he⟩, h1⟩ := st
    exact ⟨⟨old, k e (by simp) _ he⟩, h1.at' fun o q => k it (by simp) o q⟩
  item := by
    intro X hP hw hK hc i pins s σ H E I hf st hg
    subst hP hw hK
    obtain ⟨⟨old, he⟩, h1⟩ := id st
    obtain ⟨xs, x, hqx, hx⟩ := hg
    obtain ⟨its, rv, p, _, _⟩ := inv_s I hqx
    obtain ⟨u, hu, ru⟩ := rv.get hx
    have hh : X.A.in1.handled = none := I.ok.hd hc
    have G := GoesN.enumFrom (prog := X.prog) (w := X.w) (A := X.A) (elts := elts) (x1 := kk) (pos := tpos) 0 (draws_s hh t it a hai its.toArray) e hei (by simp; exact ⟨hei, hea⟩) (by simp)
    have hlt : i < its.toArray.size := by
      have l1 := (List.getElem?_eq_some_iff.mp hu).1
      simpa using l1
    have z0 : ∀ j : Nat, (0 : Int) + (j : Int) = (j : Int) := fun j => by omega
    refine wpAny_mono (G.goes i s (fun v s2 => ∃ x H', Inv X pins σ H' s2 ∧ RelV x v ∧ (ItE X.K t a).yld i H x H' ∧ ((∃ old, IsEnum s2.heap e it ((i + 1 : Nat) : Int) old) ∧ IterAt s2.heap t it a (i + 1)) ∧ ∀ c ∈ [e, it], H' c = none) E hlt ⟨⟨old, by rw [z0]; exact he⟩, h1, p⟩ fun v h' tk Y st' kp htk => ?_) (fun r s1 ⟨v, e, q⟩ => ⟨v, e, q⟩) fun _ _ e => e
    obtain ⟨T, tt, v1, rfl, hT, e1, hTT⟩ := Y
    obtain ⟨⟨old', he'⟩, h1', _⟩ := st'
    obtain rfl : v1 = u := by simpa [hu] using e1.symm
    rw [z0] at hTT he'
    have new : ObjOk X.prog X.w (upd H T (.tup [.int (i : Nat), x])) h' T (.tup [.int (i : Nat), x]) := ⟨by show 2 ≤ sizeLine; decide, [.int i tt, v1], .cons ⟨_, rfl⟩ (.cons ru .nil), hTT⟩
    have I1 : Inv X pins σ (upd H T (.tup [.int (i : Nat), x])) { s with heap := h', toks := tk } :=
      I.turnedNew (t' := tk) (ch := [e, it]) (fun c o hb q => kp c o hb q) hf hT new
    refine ⟨.ref T, _, I1, rfl, ⟨T, x, rfl, I.hok.fresh hT, rfl, fun l hl => by rw [inv_inj I hl hqx]; exact hx⟩, ⟨⟨old', he'⟩, h1'⟩, fun c hcm => ?_⟩
    have hlt : c < s.heap.objs.size := by
      have e' : c = e ∨ c = it := by simpa using hcm
      rcases e' with q | q
      · rw [q]; exact Heap.lt_size he
      · rw [q]; obtain ⟨_, e1, _⟩ := h1.obj; exact Heap.lt_size e1
    rw [upd_ne (Nat.ne_of_lt (Nat.lt_of_lt_of_le hlt hT))]
    exact (hf c hcm).1
  done := by
    intro X hP hw hK hc i pins s σ H E I hf st hg
    subst hP hw hK
    obtain ⟨⟨old, he⟩, h1⟩ := id st
    obtain ⟨xs, hqx, hend⟩ := hg
    obtain ⟨its, rv, p, _, _⟩ := inv_s I hqx
    have l1 := rv.length
    have hh : X.A.in1.handled = none := I.ok.hd hc
    have G := GoesN.enumFrom (prog := X.prog) (w := X.w) (A := X.A) (elts := elts) (x1 := kk) (pos := tpos) 0 (draws_s hh t it a hai its.toArray) e hei (by simp; exact ⟨hei, hea⟩) (by simp)
    have e1 : its.toArray.size = i := by simp; omega
    have z0 : ∀ j : Nat, (0 : Int) + (j : Int) = (j : Int) := fun j => by omega
    refine G.stops s (fun s1 => Inv X pins σ H s1) E (by rw [e1]; exact ⟨⟨old, by rw [z0]; exact he⟩, h1, p⟩) fun h' tk kp _ => ?_
    exact I.turnedL (t' := tk) (ch := [e, it]) (fun c o hb q => kp c o hb q) hf
  self := fun A i s Q E st h => let ⟨⟨_, he⟩, _⟩ := st; wpAny_pyIter_enum he h
def iEnumS (K : PySem.W.Frag) (ta : TA) : TI := fun σ H R => ta σ H fun vs H1 => ∃ a t, vs = [.ref a] ∧ (∃ xs, SqS K H1 t a xs) ∧ R (ItE K t a) H1
theorem pi_enumS {X : Cx} {e : Expr} {ta : TA} {p pos tpos : Pos} {elts : List Expr} {kk : Nat} (hg : Gl X "enumerate") (hm : X.mg "enumerate" = none) (ha : PA X [e] ta) (hs : starEach [e] X.env = [(false, eval e X.env)] := by rfl) :
    PI X (.Tuple elts kk tpos) (.Call (.Name "enumerate" p) [e] [] pos) (iEnumS X.K ta) := by
  refine ⟨fun pins s σ H R I h => ?_⟩
  refine Call_ (ld_blt I hg hm boot_enumerate (PyProof.Rows.callWith_type1 (thn (ha.run pos pins s σ H _ I h) fun us s1 ⟨vs, H1, I1, r1, q1⟩ => ?_) hs rfl))
  obtain ⟨a, t, ex, ⟨xs, hqx⟩, q⟩ := q1
  subst ex
  obtain ⟨its, rv, p1, _, la⟩ := inv_s I1 hqx
  cases r1 with
  | cons r rr =>
    cases rr
    cases r
    refine enum_begins1 (begins_s t a its.toArray) p1 fun h' he h1 hsz hk => wpAny_pyIter_enum he ?_
    have I2 : Inv X pins σ H1 { s1 with heap := h' } := I1.kept (t' := s1.toks) hk
    refine ⟨s1.heap.objs.size + 1, [s1.heap.objs.size + 1, s1.heap.objs.size], _, _, H1, rfl, I2, turn_enumS (t := t) (Nat.succ_ne_self _) (Nat.ne_of_gt (Nat.lt_succ_of_lt la)) (Nat.ne_of_lt la), ⟨⟨.none, he⟩, iterAt_mk h1⟩, fun c hcm => ?_, q⟩
    have e' : c = s1.heap.objs.size + 1 ∨ c = s1.heap.objs.size := by simpa using hcm
    have hle : s1.heap.objs.size ≤ c := by
      rcases e' with z | z
      · rw [z]; exact Nat.le_add_right _ _
      · rw [z]; exact Nat.le_refl _
    exact I1.fpOk hle (I1.hok.fresh hle)
end DL

namespace DL
open PySem PySem.Spec L2
open PyProof.Rows hiding St

/-! ### what is walked, by data -/
theorem same_tup {H H' : Hp} (s : ∀ a o, H a = some o → H' a = some o) : TupMono H H' := fun a u q _ => s a u q
structure DWalk (K : PySem.W.Frag) (J : It) (its : List D) (stay : DH → Prop) (H1 : Hp) : Prop where
  go : ∀ i h H, i < its.length → HR K H h → stay h → TupMono H1 H → J.go i H
  stop : ∀ h H, HR K H h → stay h → TupMono H1 H → J.stop its.length H
  yld : ∀ i h H x H', i < its.length → HR K H h → stay h → TupMono H1 H → J.yld i H x H' → ∃ d, its[i]? = some d ∧ Rep K H' d x ∧ HR K H' h ∧ ∀ a o, H a = some o → H' a = some o
abbrev DTI := DS → DH → (List D → (DH → Prop) → DH → Prop) → Prop
def LI (K : PySem.W.Frag) (ti : DTI) : TI := fun σ H R => ∃ σD h RD, RS K σD h σ H ∧ ti σD h RD ∧ ∀ its stay h' J H', RD its stay h' → RS K σD h' σ H' → Keep h H h' H' → DWalk K J its stay H' → R J H'
abbrev DI (X : Cx) (tg iter : Expr) (ti : DTI) : Prop := PI X tg iter (LI X.K ti)
theorem _root_.L2.PI.imp {X : Cx} {tg e : Expr} {t t' : TI} (p : PI X tg e t) (i : ∀ σ H R, t' σ H R → t σ H R) : PI X tg e t' := ⟨fun pins s σ H R I q => p.run pins s σ H R I (i _ _ _ q)⟩

/-- a value of data that is walked: its items, and what must stand meanwhile -/
def srcD (h : DH) : D → Option (List D × (DH → Prop))
  | .tup ds => some (ds, fun _ => True)
  | .rol ds => some (ds, fun _ => True)
  | .ref a => match h a with
    | some (.lst ds) => some (ds, fun h' => h' a = some (.lst ds))
    | _ => none
  | _ => none
/-- how its items are read at each heap -/
structure Src (K : PySem.W.Frag) (t : Bool) (a : Addr) (ds : List D) (stay : DH → Prop) (H1 : Hp) : Prop where
  at' : ∀ h H, HR K H h → stay h → TupMono H1 H → ∃ vs, SqS K H t a vs ∧ Reps K H ds vs
theorem src_of {K : PySem.W.Frag} {H : Hp} {h : DH} {d : D} {v : V} {ds : List D} {stay : DH → Prop} (r : HR K H h) (e : srcD h d = some (ds, stay)) (q : Rep K H d v) : ∃ a t, v = .ref a ∧ (∃ xs, SqS K H t a xs) ∧ Src K t a ds stay H := by
  cases d with
  | tup es =>
    obtain ⟨a, vs, rfl, s, q⟩ := rep_tup q
    cases e
    exact ⟨a, true, rfl, ⟨vs, s⟩, ⟨fun h' H' _ _ tm => ⟨vs, tm.sqt s, q.mono tm⟩⟩⟩
  | rol es =>
    obtain ⟨a, vs, rfl, s, q⟩ := rep_rol q
    cases e
    exact ⟨a, false, rfl, ⟨vs, s.sql⟩, ⟨fun h' H' _ _ tm => ⟨vs, (tm.sqr s).sql, q.mono tm⟩⟩⟩
  | ref a =>
    obtain rfl := rep_ref q
    have e' : (match h a with
      | some (.lst ds) => some (ds, fun h' => h' a = some (DO.lst ds))
      | _ => none) = some (ds, stay) := e
    split at e'
    · rename_i es z
      cases e'
      obtain ⟨vs, s, _⟩ := r.sql z
      exact ⟨a, false, rfl, ⟨vs, s⟩, ⟨fun h' H' r' st tm => r'.sql st⟩⟩
    · cases e'
  | non => cases e
  | bl b => cases e
  | int b => cases e
  | str b => cases e
  | ty b => cases e
theorem walk_its1 {K : PySem.W.Frag} {t : Bool} {a : Addr} {ds : List D} {stay : DH → Prop} {H1 : Hp} (S : Src K t a ds stay H1) : DWalk K (Its1 K t a) ds stay H1 where
  go := fun i h H hi r st tm => by
    obtain ⟨vs, s, q⟩ := S.at' h H r st tm
    have hi' : i < vs.length := by rw [← q.len]; exact hi
    exact ⟨vs, vs[i], s, by simp [hi']⟩
  stop := fun h H r st tm => by
    obtain ⟨vs, s, q⟩ := S.at' h H r st tm
    exact ⟨vs, s, by rw [q.len]; exact Nat.le_refl _⟩
  yld := fun i h H x H' hi r st tm y => by
    obtain ⟨vs, s, q⟩ := S.at' h H r st tm
    obtain ⟨rfl, y⟩ := y
    obtain ⟨d, e, rd⟩ := q.get' (y vs s)
    exact ⟨d, e, rd, r, fun _ _ z => z⟩
/-- for x in e -/
def dSeqI (te : DTE) : DTI := fun σ h R => te σ h fun d h1 => match srcD h1 d with
  | some (ds, stay) => R ds stay h1
  | none => False
theorem di_seq {X : Cx} {tg e : Expr} {te : DTE} (he : DE X e te) : DI X tg e (dSeqI te) := (pi_seq he).imp fun σ H R ⟨σD, h, RD, rs, q, p⟩ => by
  refine ⟨σD, h, _, rs, q, fun d h1 v H1 q1 rs1 r1 k1 => ?_⟩
  split at q1
  · rename_i ds stay e1
    obtain ⟨a, t, rfl, hx, S⟩ := src_of rs1.hr e1 r1
    exact ⟨a, t, rfl, hx, p ds stay h1 _ H1 q1 rs1 k1 (walk_its1 S)⟩
  · exact q1.elim

/-! ### ranges -/
def rngD (lo : Int) (n : Nat) : List D := (List.range n).map fun i => D.int (lo + (i : Nat))
theorem rngD_len (lo : Int) (n : Nat) : (rngD lo n).length = n := by simp [rngD]
theorem rngD_get {lo : Int} {n i : Nat} (hi : i < n) : (rngD lo n)[i]? = some (.int (lo + (i : Nat))) := by simp [rngD, hi]
theorem walk_rng {K : PySem.W.Frag} {lo : Int} {n : Nat} {H1 : Hp} : DWalk K (Itr lo n) (rngD lo n) (fun _ => True) H1 where
  go := fun i h H hi _ _ _ => by rw [rngD_len] at hi; exact hi
  stop := fun h H _ _ _ => by rw [rngD_len]; exact Nat.le_refl _
  yld := fun i h H x H' hi r _ _ y => by
    obtain ⟨rfl, rfl⟩ := y
    rw [rngD_len] at hi
    exact ⟨_, rngD_get hi, by simp [Rep], r, fun _ _ z => z⟩
def dRange1 (ta : DTA) : DTI := fun σ h R => ta σ h fun ds h1 => match ds with
  | [.int j] => (-(2 ^ 62) ≤ j ∧ j < 2 ^ 62) ∧ R (rngD 0 j.toNat) (fun _ => True) h1
  | _ => False
def dRange2 (ta : DTA) : DTI := fun σ h R => ta σ h fun ds h1 => match ds with
  | [.int i, .int j] => (-(2 ^ 62) ≤ i ∧ i < 2 ^ 62 ∧ -(2 ^ 62) ≤ j ∧ j < 2 ^ 62) ∧ R (rngD i (j - i).toNat) (fun _ => True) h1
  | _ => False
def rngC (lo c : Int) (n : Nat) : List D := (List.range n).map fun i => D.int (lo + (i : Nat) * c)
theorem rngC_len (lo c : Int) (n : Nat) : (rngC lo c n).length = n := by simp [rngC]
theorem rngC_get {lo c : Int} {n i : Nat} (hi : i < n) : (rngC lo c n)[i]? = some (.int (lo + (i : Nat) * c)) := by simp [rngC, hi]
theorem walk_rngC {K : PySem.W.Frag} {lo c : Int} {n : Nat} {H1 : Hp} : DWalk K (Itc lo c n) (rngC lo c n) (fun _ => True) H1 where
  go := fun i h H hi _ _ _ => by rw [rngC_len] at hi; exact hi
  stop := fun h H _ _ _ => by rw [rngC_len]; exact Nat.le_refl _
  yld := fun i h H x H' hi r _ _ y => by
    obtain ⟨rfl, rfl⟩ := y
    rw [rngC_len] at hi
    exact ⟨_, rngC_get hi, by simp [Rep], r, fun _ _ z => z⟩
def dRange3 (ta : DTA) : DTI := fun σ h R => ta σ h fun ds h1 => match ds with
  | [.int i, .int j, .int c] => ∃ n, RgC i j c n ∧ R (rngC i c n) (fun _ => True) h1
  | _ => False
section
variable {X : Cx} {tg a b c : Expr} {ta : DTA} {p pos : Pos}
theorem di_range1 (hg : Gl X "range") (hm : X.mg "range" = none) (ha : DA X [a] ta) (hs : starEach [a] X.env = [(false, eval a X.env)] := by rfl) : DI X tg (.Call (.Name "range" p) [a] [] pos) (dRange1 ta) :=
  (pi_range1 hg hm ha hs).imp fun σ H R ⟨σD, h, RD, rs, q, p⟩ => by
    refine ⟨σD, h, _, rs, q, fun ds h1 vs H1 q1 rs1 r1 k1 => ?_⟩
    split at q1
    · rename_i j
      obtain ⟨⟨b1, b2⟩, q1⟩ := q1
      obtain ⟨v, rfl, rv⟩ := reps_one r1
      obtain rfl := rep_int rv
      exact ⟨j, rfl, b1, b2, p _ _ h1 _ H1 q1 rs1 k1 walk_rng⟩
    · exact q1.elim
theorem di_range2 (hg : Gl X "range") (hm : X.mg "range" = none) (ha : DA X [a, b] ta) (hs : starEach [a, b] X.env = [(false, eval a X.env), (false, eval b X.env)] := by rfl) (hs2 : starEach [b] X.env = [(false, eval b X.env)] := by rfl) : DI X tg (.Call (.Name "range" p) [a, b] [] pos) (dRange2 ta) :=
  (pi_range2 hg hm ha hs hs2).imp fun σ H R ⟨σD, h, RD, rs, q, p⟩ => by
    refine ⟨σD, h, _, rs, q, fun ds h1 vs H1 q1 rs1 r1 k1 => ?_⟩
    split at q1
    · rename_i i j
      obtain ⟨b1, q1⟩ := q1
      obtain ⟨v, w, rfl, rv, rw⟩ := reps_two r1
      obtain rfl := rep_int rv
      obtain rfl := rep_int rw
      exact ⟨i, j, rfl, b1, p _ _ h1 _ H1 q1 rs1 k1 walk_rng⟩
    · exact q1.elim
theorem di_range3 (hg : Gl X "range") (hm : X.mg "range" = none) (ha : DA X [a, b, c] ta) (hs : starEach [a, b, c] X.env = (false, eval a X.env) :: starEach [b, c] X.env := by rfl) (hpl : (backTo pos (starEach [b, c] X.env)).any (·.1) = false := by rfl) : DI X tg (.Call (.Name "range" p) [a, b, c] [] pos) (dRange3 ta) :=
  (pi_range3 hg hm ha hs hpl).imp fun σ H R ⟨σD, h, RD, rs, q, p⟩ => by
    refine ⟨σD, h, _, rs, q, fun ds h1 vs H1 q1 rs1 r1 k1 => ?_⟩
    split at q1
    · rename_i i j c
      obtain ⟨n, b1, q1⟩ := q1
      obtain ⟨v, w, u, rfl, rv, rw, ru⟩ := reps_three r1
      obtain rfl := rep_int rv
      obtain rfl := rep_int rw
      obtain rfl := rep_int ru
      exact ⟨i, j, c, n, rfl, b1, p _ _ h1 _ H1 q1 rs1 k1 walk_rngC⟩
    · exact q1.elim
end

/-! ### zip, enumerate -/
def zipD : List D → List D → List D
  | x :: xs, y :: ys => .tup [x, y] :: zipD xs ys
  | _, _ => []
theorem zipD_len : ∀ (xs ys : List D), (zipD xs ys).length = min xs.length ys.length
  | [], ys => by simp [zipD]
  | x :: xs, [] => by simp [zipD]
  | x :: xs, y :: ys => by simp [zipD, zipD_len xs ys]
theorem zipD_get : ∀ {xs ys : List D} {i : Nat} {x y : D}, xs[i]? = some x → ys[i]? = some y → (zipD xs ys)[i]? = some (.tup [x, y])
  | [], _, _, _, _, e, _ => by simp at e
  | _ :: _, [], _, _, _, _, e => by simp at e
  | x :: xs, y :: ys, 0, _, _, e, e' => by simp at e e'; subst e; subst e'; simp [zipD]
  | x :: xs, y :: ys, i + 1, _, _, e, e' => by simp [zipD]; exact zipD_get (by simpa using e) (by simpa using e')
theorem rep_pair {K : PySem.W.Frag} {H : Hp} {T : Addr} {x y : V} {dx dy : D} (n : H T = none) (rx : Rep K H dx x) (ry : Rep K H dy y) : Rep K (upd H T (.tup [x, y])) (.tup [dx, dy]) (.ref T) :=
  rep_tup_mk n (by unfold Reps; exact ⟨x, [y], rfl, rx, by unfold Reps; exact ⟨y, [], rfl, ry, by simp [Reps]⟩⟩)
theorem walk_zip2 {K : PySem.W.Frag} {t1 t2 : Bool} {a b : Addr} {ds es : List D} {st1 st2 : DH → Prop} {H1 : Hp} (S1 : Src K t1 a ds st1 H1) (S2 : Src K t2 b es st2 H1) : DWalk K (Itz2 K t1 t2 a b) (zipD ds es) (fun h => st1 h ∧ st2 h) H1 where
  go := fun i h H hi r st tm => by
    obtain ⟨vs, s, q⟩ := S1.at' h H r st.1 tm
    obtain ⟨ws, s', q'⟩ := S2.at' h H r st.2 tm
    rw [zipD_len] at hi
    have h1 : i < vs.length := by rw [← q.len]; omega
    have h2 : i < ws.length := by rw [← q'.len]; omega
    exact ⟨vs, ws, vs[i], ws[i], s, s', by simp [h1], by simp [h2]⟩
  stop := fun h H r st tm => by
    obtain ⟨vs, s, q⟩ := S1.at' h H r st.1 tm
    obtain ⟨ws, s', q'⟩ := S2.at' h H r st.2 tm
    exact ⟨vs, ws, s, s', by rw [zipD_len, q.len, q'.len]⟩
  yld := fun i h H x H' hi r st tm y => by
    obtain ⟨vs, s, q⟩ := S1.at' h H r st.1 tm
    obtain ⟨ws, s', q'⟩ := S2.at' h H r st.2 tm
    obtain ⟨T, x, y, rfl, n, rfl, y1, y2⟩ := y
    obtain ⟨d, e, rd⟩ := q.get' (y1 vs s)
    obtain ⟨d', e', rd'⟩ := q'.get' (y2 ws s')
    refine ⟨_, zipD_get e e', rep_pair n rd rd', r.hid n, fun c o z => ?_⟩
    rw [upd_ne (ne_of_none z n)]
    exact z
def enumD (i : Nat) : List D → List D
  | [] => []
  | x :: xs => .tup [.int (i : Nat), x] :: enumD (i + 1) xs
theorem enumD_len : ∀ (xs : List D) (i : Nat), (enumD i xs).length = xs.length
  | [], i => by simp [enumD]
  | x :: xs, i => by simp [enumD, enumD_len xs]
theorem enumD_get : ∀ {xs : List D} {i j : Nat} {x : D}, xs[j]? = some x → (enumD i xs)[j]? = some (.tup [.int ((i + j : Nat) : Int), x])
  | [], _, _, _, e => by simp at e
  | x :: xs, i, 0, _, e => by simp at e; subst e; simp [enumD]
  | x :: xs, i, j + 1, y, e => by
    simp only [enumD, List.getElem?_cons_succ]
    rw [enumD_get (x := y) (by simpa using e)]
    congr 5
    omega
theorem walk_enumS {K : PySem.W.Frag} {t : Bool} {a : Addr} {ds : List D} {st : DH → Prop} {H1 : Hp} (S : Src K t a ds st H1) : DWalk K (ItE K t a) (enumD 0 ds) st H1 where
  go := fun i h H hi r st tm => by
    obtain ⟨vs, s, q⟩ := S.at' h H r st tm
    rw [enumD_len] at hi
    have h1 : i < vs.length := by rw [← q.len]; omega
    exact ⟨vs, vs[i], s, by simp [h1]⟩
  stop := fun h H r st tm => by
    obtain ⟨vs, s, q⟩ := S.at' h H r st tm
    exact ⟨vs, s, by rw [enumD_len, q.len]⟩
  yld := fun i h H x H' hi r st tm y => by
    obtain ⟨vs, s, q⟩ := S.at' h H r st tm
    obtain ⟨T, x, rfl, n, rfl, y1⟩ := y
    obtain ⟨d, e, rd⟩ := q.get' (y1 vs s)
    refine ⟨_, enumD_get (i := 0) e, ?_, r.hid n, fun c o z => ?_⟩
    · rw [Nat.zero_add]
      exact rep_pair n (by simp [Rep]) rd
    · rw [upd_ne (ne_of_none z n)]
      exact z
def dZip2 (ta : DTA) : DTI := fun σ h R => ta σ h fun ds h1 => match ds with
  | [d, e] => match srcD h1 d, srcD h1 e with
    | some (xs, st1), some (ys, st2) => R (zipD xs ys) (fun h => st1 h ∧ st2 h) h1
    | _, _ => False
  | _ => False
def dEnum (ta : DTA) : DTI := fun σ h R => ta σ h fun ds h1 => match ds with
  | [d] => match srcD h1 d with
    | some (xs, st1) => R (enumD 0 xs) st1 h1
    | none => False
  | _ => False
section
variable {X : Cx} {e e2 : Expr} {ta : DTA} {p pos tpos : Pos} {elts : List Expr} {kk : Nat}
theorem di_zip2 (hg : Gl X "zip") (hm : X.mg "zip" = none) (ha : DA X [e, e2] ta) (hs : starEach [e, e2] X.env = (false, eval e X.env) :: starEach [e2] X.env := by rfl) (hpl : (backTo pos (starEach [e2] X.env)).any (·.1) = false := by rfl) :
    DI X (.Tuple elts kk tpos) (.Call (.Name "zip" p) [e, e2] [] pos) (dZip2 ta) := (pi_zip2 hg hm ha hs hpl).imp fun σ H R ⟨σD, h, RD, rs, q, p⟩ => by
  refine ⟨σD, h, _, rs, q, fun ds h1 vs H1 q1 rs1 r1 k1 => ?_⟩
  split at q1
  · rename_i d e
    split at q1
    · rename_i xs st1 ys st2 e1 e2
      obtain ⟨v, w, rfl, rv, rw⟩ := reps_two r1
      obtain ⟨a, t1, rfl, hx, S1⟩ := src_of rs1.hr e1 rv
      obtain ⟨b, t2, rfl, hy, S2⟩ := src_of rs1.hr e2 rw
      exact ⟨a, b, t1, t2, rfl, hx, hy, p _ _ h1 _ H1 q1 rs1 k1 (walk_zip2 S1 S2)⟩
    · exact q1.elim
  · exact q1.elim
theorem di_enum (hg : Gl X "enumerate") (hm : X.mg "enumerate" = none) (ha : DA X [e] ta) (hs : starEach [e] X.env = [(false, eval e X.env)] := by rfl) :
    DI X (.Tuple elts kk tpos) (.Call (.Name "enumerate" p) [e] [] pos) (dEnum ta) := (pi_enumS hg hm ha hs).imp fun σ H R ⟨σD, h, RD, rs, q, p⟩ => by
  refine ⟨σD, h, _, rs, q, fun ds h1 vs H1 q1 rs1 r1 k1 => ?_⟩
  split at q1
  · rename_i d
    split at q1
    · rename_i xs st1 e1
      obtain ⟨v, rfl, rv⟩ := reps_one r1
      obtain ⟨a, t1, rfl, hx, S1⟩ := src_of rs1.hr e1 rv
      exact ⟨a, t1, rfl, hx, p _ _ h1 _ H1 q1 rs1 k1 (walk_enumS S1)⟩
    · exact q1.elim
  · exact q1.elim
end

/-! ### for -/
def dFor (ti : DTI) (g : DTG) (tb : DTS) : DTS := fun D σ h => ti σ h fun its stay h1 => ∃ P : Nat → DS → DH → Prop, P 0 σ h1 ∧ ∀ i σ h, P i σ h → stay h ∧
  (∀ d, its[i]? = some d → g d σ h fun σ2 h2 => tb { D with nx := P (i + 1), ct := P (i + 1), bk := D.nx } σ2 h2) ∧ (i = its.length → D.nx σ h)
theorem ds_for {X : Cx} {tg iter : Expr} {body : List Stmt} {ti : DTI} {g : DTG} {is : List Nat} {tb : DTS} {pos : Pos} (hp : PassesOwn (model X.prog X.w) X.A X.env X.xe) (hc : X.calm = true) (hi : DI X tg iter ti) (hg : DG X tg is g) (hb : DSs X body tb)
    (hs : ∀ x, foldedSetIterable iter X.env x = pure x := by intro _; rfl) : DSt X (.For tg iter body [] pos) (dFor ti g tb) :=
  (ps_for hp hc hi hg hb hs).imp fun Ds σ0 H0 ⟨σD0, h0, DD, rs0, q, p⟩ => by
    refine ⟨σD0, h0, _, rs0, q, ?_⟩
    rintro its stay h1 J H1 ⟨P, p0, turn⟩ rs1 k1 Wk
    refine ⟨fun i m σ H => m = its.length - i ∧ i ≤ its.length ∧ ∃ σD h, RS X.K σD h σ H ∧ P i σD h ∧ TupMono H1 H ∧ Keep h0 H0 h H, ⟨its.length, by simp, Nat.zero_le _, σD0, h1, rs1, p0, .refl _, k1⟩, ?_⟩
    rintro i m σ H ⟨rfl, hi, σD, h, rs, pi, tm, k⟩
    obtain ⟨st, t1, t2⟩ := turn i σD h pi
    by_cases hlt : i < its.length
    · refine .inr ⟨Wk.go i h H hlt rs.hr st tm, fun σ' H' => ∃ σD' h', RS X.K σD' h' σ' H' ∧ P (i + 1) σD' h' ∧ TupMono H1 H' ∧ Keep h0 H0 h' H', ?_, ?_⟩
      · rintro σ' H' ⟨σD', h', rs', p', tm', k'⟩
        exact ⟨its.length - (i + 1), by omega, rfl, hlt, σD', h', rs', p', tm', k'⟩
      · intro x H' y
        obtain ⟨d, ed, rd, hr', same⟩ := Wk.yld i h H x H' hlt rs.hr st tm y
        have tm' : TupMono H1 H' := tm.trans (same_tup same)
        have k' : Keep h0 H0 h H' := k.trans fun a o z n => ⟨same a o z, n⟩
        refine ⟨d, σD, h, _, ⟨rs.sl.mono (same_tup same), hr'⟩, rd, t1 d ed, fun σD2 h2 σ2 H2 q2 rs2 k2 _ => ?_⟩
        have tm2 : TupMono H1 H2 := tm'.trans (k2.tup hr')
        refine ⟨σD2, h2, _, rs2, q2, ?_, ?_, ?_, ?_⟩
        · intro σD3 h3 σ3 H3 q3 rs3 k3
          exact ⟨σD3, h3, rs3, q3, tm2.trans (k3.tup rs2.hr), k'.trans (k2.trans k3)⟩
        · intro σD3 h3 σ3 H3 q3 rs3 k3
          exact p.nx σD3 h3 σ3 H3 q3 rs3 (k'.trans (k2.trans k3))
        · intro σD3 h3 σ3 H3 q3 rs3 k3
          exact ⟨σD3, h3, rs3, q3, tm2.trans (k3.tup rs2.hr), k'.trans (k2.trans k3)⟩
        · intro d3 h3 v3 H3 q3 hr3 r3 k3
          exact p.rt d3 h3 v3 H3 q3 hr3 r3 (k'.trans (k2.trans k3))
    · have e : i = its.length := by omega
      subst e
      exact .inl ⟨Wk.stop h H rs.hr st tm, p.nx σD h σ H (t2 rfl) rs k⟩

/-! ### comprehensions -/
def dwipe (σ : DS) : List Nat → DS
  | [] => σ
  | v :: vs => (dwipe σ vs).set v none
theorem SRep.wipe {K : PySem.W.Frag} {H : Hp} {σD : DS} {σ : St} (r : SRep K H σD σ) : ∀ vs : List Nat, SRep K H (dwipe σD vs) (wipe σ vs)
  | [] => r
  | v :: vs => SRep.set (show ORep K H none none from trivial) (SRep.wipe r vs)
/-- a comprehension's items, by value -/
abbrev DTL := DS → DH → (List D → DH → Prop) → Prop
def dLc (ti : DTI) (g : DTG) (tt : DTT) (te : DTE) (vs : List Nat) : DTL := fun σ h Q => ti σ h fun its stay h1 => ∃ P : Nat → List D → DH → Prop, P 0 [] h1 ∧ ∀ i acc h, P i acc h → stay h ∧
  (∀ d, its[i]? = some d → g d (dwipe σ vs) h fun σ2 h2 => tt σ2 h2 fun b h3 => if b = true then te σ2 h3 fun y h4 => acc.length < sizeLine ∧ P (i + 1) (acc ++ [y]) h4 else P (i + 1) acc h3) ∧ (i = its.length → Q acc h)
def LL (K : PySem.W.Frag) (t : DTL) : TE := fun σ H Q => ∃ σD h QD, RS K σD h σ H ∧ t σD h QD ∧ ∀ acc h' D H' vs, QD acc h' → RS K σD h' σ H' → H' D = some (.lst vs) → Reps K H' acc vs → h' D = none → (∀ o, Keep h H (updD h' D o) H') → Keep h H h' H' → Q (.ref D) H'
abbrev DLC (X : Cx) (e : Expr) (t : DTL) : Prop := PE X e (LL X.K t)
def dYes : DTT := fun _ h Q => Q true h
abbrev DTs (X : Cx) (ifs : List Expr) (t : DTT) : Prop := PTs X ifs (LT X.K t)
theorem _root_.L2.PTs.imp {X : Cx} {e : List Expr} {t t' : TT} (p : PTs X e t) (i : ∀ σ H Q, t' σ H Q → t σ H Q) : PTs X e t' := ⟨fun pins s σ H Q I q => p.run pins s σ H Q I (i _ _ _ q)⟩
theorem dts_nil {X : Cx} : DTs X [] dYes := pts_nil.imp fun σ H Q ⟨σD, h, QD, rs, q, p⟩ => p true h H q rs .refl
theorem dts_one {X : Cx} {c : Expr} {t : DTT} (h : DT X c t) : DTs X [c] t := pts_one h
theorem tupMono_lst {H : Hp} {p : Addr} {u : HO} {vs : List V} (e : H p = some (.lst vs)) : TupMono H (upd H p u) := fun a w q f => by
  have ne : a ≠ p := by rintro rfl; rw [e] at q; cases q; exact f
  rw [upd_ne ne]; exact q
theorem HR.over {K : PySem.W.Frag} {H : Hp} {h : DH} (r : HR K H h) {p : Addr} {u : HO} {vs : List V} (e : H p = some (.lst vs)) (n : h p = Option.none) : HR K (upd H p u) h := fun a o z => by
  obtain ⟨w, hw, q⟩ := r a o z
  have ne : a ≠ p := by rintro rfl; rw [n] at z; cases z
  exact ⟨w, by rw [upd_ne ne]; exact hw, q.mono (tupMono_lst e)⟩
theorem wipe_wipe (σ : St) (vs : List Nat) : wipe (wipe σ vs) vs = wipe σ vs := by
  refine List.ext_getElem? fun j => ?_
  have ln : (wipe σ vs).length = σ.length := by
    induction vs with
    | nil => rfl
    | cons w ws ih => simp [wipe, ih]
  rw [wipe_get, wipe_get, ln]
  split <;> rfl
theorem Keep.over {h0 h : DH} {H0 H : Hp} {D : Addr} {u : HO} (k : Keep h0 H0 h H) (x : ∀ o, H0 D = some o → h0 D = none → False) : Keep h0 H0 h (upd H D u) := fun a o z n => by
  have ne : a ≠ D := by rintro rfl; exact x o z n
  rw [upd_ne ne]
  exact k a o z n
theorem Keep.overD {h0 h : DH} {H0 H : Hp} {D : Addr} {u : DO} (k : Keep h0 H0 h H) (x : ∀ o, H0 D = some o → h0 D = none → False) : Keep h0 H0 (updD h D u) H := fun a o z n => by
  have ne : a ≠ D := by rintro rfl; exact x o z n
  rw [updD_ne ne]
  exact k a o z n
/-- the comprehension's own loop, over the heap of data -/
theorem ll_lc {K : PySem.W.Frag} {ti : DTI} {is : List Nat} {g : DTG} {tt : DTT} {te : DTE} {vs : List Nat} (his : ∀ i ∈ is, i ∈ vs) (σ0 : St) (H0 : Hp) (Q : VK) (q : LL K (dLc ti g tt te vs) σ0 H0 Q) :
    tLc (LI K ti) (LG K is g) (LT K tt) (LE K te) vs σ0 H0 Q := by
  obtain ⟨σD0, h0, QD, rs0, q, p⟩ := q
  refine ⟨σD0, h0, _, rs0, q, ?_⟩
  rintro its stay h1 J H1 ⟨P, p0, turn⟩ rs1 k1 Wk D nD
  have xD : ∀ o, H0 D = some o → h0 D = none → False := fun o z n => by
    have e := (k1 D o z n).1
    rw [nD] at e; cases e
  let R : Nat → Hp → Prop := fun i H => ∃ acc h vsA, RS K σD0 h σ0 H ∧ P i acc h ∧ H D = some (.lst vsA) ∧ Reps K H acc vsA ∧ h D = none ∧ TupMono H1 H ∧ Keep h0 H0 h H
  refine ⟨fun i m H => m = its.length - i ∧ i ≤ its.length ∧ R i H, ⟨its.length, by simp, Nat.zero_le _, [], h1, [], rs1.hid nD, p0, upd_same, by simp [Reps], rs1.hr.none nD, tupMono_new nD, k1.trans (.hid nD)⟩, ?_⟩
  rintro i m H ⟨rfl, hi, acc, h, vsA, rs, pi, hD, rA, nh, tm, k⟩
  obtain ⟨st, t1, t2⟩ := turn i acc h pi
  by_cases hlt : i < its.length
  · refine .inr ⟨Wk.go i h H hlt rs.hr st tm, R (i + 1), fun H' r' => ⟨its.length - (i + 1), by omega, rfl, hlt, r'⟩, ?_⟩
    intro x H' y
    obtain ⟨d, ed, rd, hr', same⟩ := Wk.yld i h H x H' hlt rs.hr st tm y
    have tm' : TupMono H H' := same_tup same
    refine ⟨d, dwipe σD0 vs, h, _, ⟨(rs.sl.mono tm').wipe vs, hr'⟩, rd, t1 d ed, fun σD2 h2 σ2 H2 q2 rs2 k2 on2 => ⟨(on2 vs his).trans (wipe_wipe σ0 vs), ?_⟩⟩
    refine ⟨σD2, h2, _, rs2, q2, fun b h3 H3 q3 rs3 k3 => ?_⟩
    have k23 := k2.trans k3
    cases b with
    | true =>
      rw [if_pos rfl] at q3
      show if true = true then _ else _
      rw [if_pos rfl]
      refine ⟨σD2, h3, _, rs3, q3, fun y h4 v H4 ⟨ln, q4⟩ rs4 r4 k4 => ?_⟩
      have k24 := k23.trans k4
      obtain ⟨hD4, nh4⟩ := k24 D _ (same D _ hD) nh
      have tm4 : TupMono H H4 := tm'.trans (k24.tup hr')
      have tmo : TupMono H4 (upd H4 D (.lst (vsA ++ [v]))) := tupMono_lst hD4
      refine ⟨vsA, hD4, by rw [← rA.len]; exact ln, acc ++ [y], h4, vsA ++ [v], ⟨rs.sl.mono (tm4.trans tmo), rs4.hr.over hD4 nh4⟩, q4, upd_same, ?_, nh4, (tm.trans tm4).trans tmo, Keep.over (k.trans ?_) xD⟩
      · exact (rA.mono (tm4.trans tmo)).append (by unfold Reps; exact ⟨v, [], rfl, r4.mono tmo, by simp [Reps]⟩)
      · exact Keep.trans (fun a o z n => ⟨same a o z, n⟩) k24
    | false =>
      rw [if_neg Bool.false_ne_true] at q3
      show if false = true then _ else _
      rw [if_neg Bool.false_ne_true]
      obtain ⟨hD3, nh3⟩ := k23 D _ (same D _ hD) nh
      have tm3 : TupMono H H3 := tm'.trans (k23.tup hr')
      exact ⟨acc, h3, vsA, ⟨rs.sl.mono tm3, rs3.hr⟩, q3, hD3, rA.mono tm3, nh3, tm.trans tm3, k.trans (Keep.trans (fun a o z n => ⟨same a o z, n⟩) k23)⟩
  · have e : i = its.length := by omega
    subst e
    exact .inl ⟨Wk.stop h H rs.hr st tm, p acc h D H vsA (t2 rfl) rs hD rA nh (fun o => k.overD xD) k⟩
section
variable {X : Cx} {elt tg iter : Expr} {ifs : List Expr} {scope : Scope} {own : List (Str × Nat)} {pos : Pos} {ti : DTI} {is : List Nat} {g : DTG} {tt : DTT} {te : DTE}
theorem dl_lc (hc : X.calm = true) (hN : X.N.Nodup) (hi : DI X tg iter ti) (ok : BlkOk X.N X.env.scope scope own) (his : ∀ i ∈ is, i ∈ own.map (·.2))
    (hg : ∀ (s : Shared) (H : Hp) (C : Addr) (cl : List (Str × Addr)) (fp : List Addr), DG (X.blk s H scope (compEnvC scope cl C X.env) fp) tg is g) (ht : ∀ (s : Shared) (H : Hp) (C : Addr) (cl : List (Str × Addr)) (fp : List Addr), DTs (X.blk s H scope (compEnvC scope cl C X.env) fp) ifs tt)
    (he : ∀ (s : Shared) (H : Hp) (C : Addr) (cl : List (Str × Addr)) (fp : List Addr), DE (X.blk s H scope (compEnvC scope cl C X.env) fp) elt te) (hs : ∀ x, foldedSetIterable iter X.env x = pure x := by intro _; rfl) :
    DLC X (.ListComp elt [⟨tg, iter, ifs, 0⟩] scope pos) (dLc ti g tt te (own.map (·.2))) := (pe_lc hc hN hi ok hg ht he hs).imp (ll_lc his)
end
/-- the comprehension as a list -/
def dLcE (t : DTL) : DTE := fun σ h Q => t σ h fun acc h' => ∀ p, h' p = none → Q (.ref p) (updD h' p (.lst acc))
theorem RS.at' {K : PySem.W.Frag} {σD : DS} {h : DH} {σ : St} {H : Hp} {p : Addr} {ds : List D} {vs : List V} (rs : RS K σD h σ H) (e : H p = some (.lst vs)) (r : Reps K H ds vs) : RS K σD (updD h p (.lst ds)) σ H := ⟨rs.sl, fun a o z => by
  by_cases ea : a = p
  · subst ea
    rw [updD_same] at z; cases z
    exact ⟨_, e, r⟩
  · rw [updD_ne ea] at z
    exact rs.hr a o z⟩
theorem de_lcE {X : Cx} {e : Expr} {t : DTL} (h : DLC X e t) : DE X e (dLcE t) := PE.imp h fun σ H Q ⟨σD, h, QD, rs, q, p⟩ =>
  ⟨σD, h, _, rs, q, fun acc h' D H' vs q1 rs1 e1 r1 n1 ku k1 => p _ _ _ _ (q1 D n1) (rs1.at' e1 r1) (by simp [Rep]) (ku _)⟩
/-- tuple([..]), sum([..]), len([..]): the list is let go -/
def dLcT (t : DTL) : DTE := fun σ h Q => t σ h fun acc h' => Q (.tup acc) h'
def dLcS (t : DTL) : DTE := fun σ h Q => t σ h fun acc h' => match intsD acc with
  | some ns => Q (.int ns.sum) h'
  | none => False
def dLcN (t : DTL) : DTE := fun σ h Q => t σ h fun acc h' => Q (.int acc.length) h'
section
variable {X : Cx} {x : Str} {e : Expr} {t : DTL} {p pos : Pos}
theorem pa_lc (h : DLC X e t) (hs : starEach [e] X.env = (false, eval e X.env) :: starEach [] X.env := by rfl) : PA X [e] (tCons (LL X.K t) tNil) := pa_cons h pa_nil hs
theorem de_lcT (hg : Gl X "tuple") (hm : X.mg "tuple" = none) (h : DLC X e t) (he : starEach [e] X.env = (false, eval e X.env) :: starEach [] X.env := by rfl) : DE X (.Call (.Name "tuple" p) [e] [] pos) (dLcT t) :=
  (pe_callTy call_tuple_of hg hm (by decide +kernel) (pa_lc h he) (by decide) (by decide) he rfl).imp fun σ H Q ⟨σD, h, QD, rs, q, p⟩ =>
    ⟨σD, h, _, rs, q, fun acc h' D H' vs q1 rs1 e1 r1 n1 ku k1 => ⟨D, vs, rfl, .inl ⟨.inl (.inl e1), (p.after k1).tup rs1 r1 q1⟩⟩⟩
theorem de_lcS (hc : X.calm = true) (hg : Gl X "sum") (hm : X.mg "sum" = none) (hv : bootBuiltins "sum" = some (.builtin "sum")) (h : DLC X e t) (he : starEach [e] X.env = (false, eval e X.env) :: starEach [] X.env := by rfl) : DE X (.Call (.Name "sum" p) [e] [] pos) (dLcS t) :=
  (pe_callB (cr_sum hc) hg hm hv (pa_lc h he) (by decide) (by decide) he rfl).imp fun σ H Q ⟨σD, h, QD, rs, q, p⟩ => by
    refine ⟨σD, h, _, rs, q, fun acc h' D H' vs q1 rs1 e1 r1 n1 ku k1 => ?_⟩
    split at q1
    · rename_i ns e2
      rw [intsD_map e2] at r1
      obtain rfl := reps_ints r1
      exact ⟨D, ns, rfl, .inl (.inl e1), p _ h' _ H' q1 rs1 (by simp [Rep]) k1⟩
    · exact q1.elim
theorem de_lcN (hg : Gl X "len") (hm : X.mg "len" = none) (hv : bootBuiltins "len" = some (.builtin "len")) (h : DLC X e t) (he : starEach [e] X.env = (false, eval e X.env) :: starEach [] X.env := by rfl) : DE X (.Call (.Name "len" p) [e] [] pos) (dLcN t) :=
  (pe_callB call_len hg hm hv (pa_lc h he) (by decide) (by decide) he rfl).imp fun σ H Q ⟨σD, h, QD, rs, q, p⟩ => by
    refine ⟨σD, h, _, rs, q, fun acc h' D H' vs q1 rs1 e1 r1 n1 ku k1 => ?_⟩
    have fin : Q (.int acc.length) H' := p _ h' (.int acc.length) H' q1 rs1 (by simp [Rep]) k1
    rw [r1.len] at fin
    exact ⟨_, vs.length, rfl, .inl ⟨vs, .inl (.inl e1), rfl⟩, fin⟩
end
/-- y = [..], a statement of its own -/
def dLcSet (i : Nat) (t : DTL) : DTS := fun D σ h => t σ h fun acc h' => ∀ p, h' p = none → D.nx (σ.set i (some (.ref p))) (updD h' p (.lst acc))
section
variable {X : Cx} {elt tg iter : Expr} {ifs : List Expr} {scope : Scope} {own : List (Str × Nat)} {pos spos py : Pos} {y : Str} {ti : DTI} {is : List Nat} {g : DTG} {tt : DTT} {te : DTE}
theorem ds_lc (i : Nat) (hc : X.calm = true) (hN : X.N.Nodup) (hy : X.N[i]? = some y) (hyl : X.env.scope.names.lookup y = some .local)
    (hsw : swapsWith (.ListComp elt [⟨tg, iter, ifs, 0⟩] scope pos) (some (.Name y py)) spos.line X.env = pure true) (hi : DI X tg iter ti) (ok : BlkOk X.N X.env.scope scope own) (his : ∀ i ∈ is, i ∈ own.map (·.2))
    (hg : ∀ (s : Shared) (H : Hp) (C : Addr) (cl : List (Str × Addr)) (fp : List Addr), DG (X.blk s H scope (compEnvC scope cl C X.env) fp) tg is g) (ht : ∀ (s : Shared) (H : Hp) (C : Addr) (cl : List (Str × Addr)) (fp : List Addr), DTs (X.blk s H scope (compEnvC scope cl C X.env) fp) ifs tt)
    (he : ∀ (s : Shared) (H : Hp) (C : Addr) (cl : List (Str × Addr)) (fp : List Addr), DE (X.blk s H scope (compEnvC scope cl C X.env) fp) elt te) (hs : ∀ x, foldedSetIterable iter X.env x = pure x := by intro _; rfl) :
    DSt X (.Assign [.Name y py] (.ListComp elt [⟨tg, iter, ifs, 0⟩] scope pos) spos) (dLcSet i (dLc ti g tt te (own.map (·.2)))) :=
  (ps_setLc (i := i) hc hN hy hyl hsw hi ok hg ht he hs).imp fun Ds σ H ⟨σD, h, DD, rs, q, p⟩ => by
    refine ll_lc his σ H (fun x H1 => gName i x σ H1 Ds.nx) ⟨σD, h, _, rs, q, fun acc h' D H' vs q1 rs1 e1 r1 n1 ku k1 => ?_⟩
    have rs2 := rs1.at' e1 r1
    exact p.nx _ _ _ H' (q1 D n1) ⟨SRep.set (show ORep X.K H' (some (.ref D)) (some (.ref D)) from by simp [ORep, Rep]) rs2.sl, rs2.hr⟩ (ku _)
end

/-! ### methods of lists -/
def rAppendD : D → List D → DH → DK → Prop := fun x vs h Q => match x, vs with
  | .ref a, [y] => match h a with
    | some (.lst ds) => ds.length < sizeLine ∧ Q .non (updD h a (.lst (ds ++ [y])))
    | _ => False
  | _, _ => False
def rExtendD : D → List D → DH → DK → Prop := fun x vs h Q => match x, vs with
  | .ref a, [.ref b] => match h a, h b with
    | some (.lst ds), some (.lst es) => ds.length + es.length ≤ sizeLine ∧ Q .non (updD h a (.lst (ds ++ es)))
    | _, _ => False
  | _, _ => False
def rPopD : D → List D → DH → DK → Prop := fun x vs h Q => match x, vs with
  | .ref a, [] => match h a with
    | some (.lst ds) => match ds[ds.length - 1]? with
      | some y => Q y (updD h a (.lst ds.dropLast))
      | none => False
    | _ => False
  | _, _ => False
end DL

namespace DL
open PySem PySem.Spec L2
open PyProof.Rows hiding St

/-! ### methods of lists -/
def dBm (r : D → List D → DH → DK → Prop) (to : DTE) (t : DTA) : DTE := fun σ h Q => to σ h fun x h1 => t σ h1 fun vs h2 => r x vs h2 Q
def dBm0 (r : D → List D → DH → DK → Prop) (to : DTE) : DTE := fun σ h Q => to σ h fun x h1 => r x [] h1 Q
/-- the receiver is a list that may be written -/
def isLst (h : DH) : D → Prop
  | .ref a => ∃ ds, h a = some (.lst ds)
  | _ => False
def AdM (K : PySem.W.Frag) (rd : D → List D → DH → DK → Prop) (r : V → List V → Hp → VK → Prop) : Prop :=
  ∀ (σD : DS) (σ : St) (h : DH) (H : Hp) (dx : D) (x : V) (ds : List D) (xs : List V) (QD : DK) (Q : VK), RS K σD h σ H → Rep K H dx x → Reps K H ds xs → rd dx ds h QD → Post K σD σ h H QD Q → r x xs H Q
theorem ad_append {K : PySem.W.Frag} : AdM K rAppendD rAppend := by
  intro σD σ h H dx x ds xs QD Q rs rx rxs q p
  unfold rAppendD at q
  split at q
  · rename_i a y
    split at q
    · rename_i es e
      obtain ⟨ln, q⟩ := q
      obtain rfl := rep_ref rx
      obtain ⟨v, rfl, rv⟩ := reps_one rxs
      obtain ⟨vs, hv, r⟩ := rs.hr.lst e
      have tm : TupMono H (upd H a (.lst (vs ++ [v]))) := tupMono_put rs.hr e
      refine ⟨a, vs, v, rfl, rfl, hv, by rw [← r.len]; exact ln, p _ _ _ _ q (rs.put e (o := .lst (es ++ [y])) (u := .lst (vs ++ [v])) ?_) (by simp [Rep]) (.put e)⟩
      exact Reps.append r (by unfold Reps; exact ⟨v, [], rfl, rv, by simp [Reps]⟩)
    · exact q.elim
  · exact q.elim
theorem ad_extend {K : PySem.W.Frag} : AdM K rExtendD rExtend := by
  intro σD σ h H dx x ds xs QD Q rs rx rxs q p
  unfold rExtendD at q
  split at q
  · rename_i a b
    split at q
    · rename_i es fs e1 e2
      obtain ⟨ln, q⟩ := q
      obtain rfl := rep_ref rx
      obtain ⟨v, rfl, rv⟩ := reps_one rxs
      obtain rfl := rep_ref rv
      obtain ⟨vs, hv, r⟩ := rs.hr.lst e1
      obtain ⟨ws, hw, r'⟩ := rs.hr.lst e2
      exact ⟨a, b, vs, ws, rfl, rfl, hv, hw, by rw [← r.len, ← r'.len]; exact ln, p _ _ _ _ q (rs.put e1 (o := .lst (es ++ fs)) (u := .lst (vs ++ ws)) (r.append r')) (by simp [Rep]) (.put e1)⟩
    · exact q.elim
  · exact q.elim
theorem Reps.dropLast {K : PySem.W.Frag} {H : Hp} {ds : List D} {vs : List V} (r : Reps K H ds vs) : Reps K H ds.dropLast vs.dropLast := by
  rw [List.dropLast_eq_take, List.dropLast_eq_take, r.len]
  exact r.take _
theorem ad_pop {K : PySem.W.Frag} : AdM K rPopD rPop := by
  intro σD σ h H dx x ds xs QD Q rs rx rxs q p
  unfold rPopD at q
  split at q
  · rename_i a
    split at q
    · rename_i es e
      split at q
      · rename_i y e2
        obtain rfl := rep_ref rx
        obtain rfl := reps_nil rxs
        obtain ⟨vs, hv, r⟩ := rs.hr.lst e
        obtain ⟨v, hv2, rv⟩ := r.get e2
        rw [r.len] at hv2
        exact ⟨a, vs, v, rfl, rfl, hv, hv2, p _ _ _ _ q (rs.put e (o := .lst es.dropLast) (u := .lst vs.dropLast) r.dropLast) (rv.mono (tupMono_put rs.hr e)) (.put e)⟩
      · exact q.elim
    · exact q.elim
  · exact q.elim
/-- xs.m(e), xs.m() of a list -/
def dBmL (r : D → List D → DH → DK → Prop) (to : DTE) (t : DTA) : DTE := fun σ h Q => to σ h fun x h1 => isLst h1 x ∧ t σ h1 fun vs h2 => r x vs h2 Q
def dBmL0 (r : D → List D → DH → DK → Prop) (to : DTE) : DTE := fun σ h Q => to σ h fun x h1 => isLst h1 x ∧ r x [] h1 Q
theorem isLst_tyV {K : PySem.W.Frag} {H : Hp} {h : DH} {d : D} {v : V} (r : HR K H h) (q : isLst h d) (rd : Rep K H d v) : ∃ a vs, v = .ref a ∧ H a = some (.lst vs) := by
  cases d with
  | ref a =>
    obtain ⟨ds, e⟩ := q
    obtain rfl := rep_ref rd
    obtain ⟨vs, hv, _⟩ := r.lst e
    exact ⟨a, vs, rfl, hv⟩
  | _ => exact q.elim
section
variable {X : Cx} {e : Expr} {to : DTE} {t : DTA} {r : V → List V → Hp → VK → Prop} {rd : D → List D → DH → DK → Prop}
theorem de_meth (h : PE X e (tBM X.K "list" r (LE X.K to) (LA X.K t))) (ad : AdM X.K rd r) : DE X e (dBmL rd to t) :=
  h.imp fun σ H Q ⟨σD, h, QD, rs, q, p⟩ => by
    refine ⟨σD, h, _, rs, q, fun d1 h1 v1 H1 ⟨q0, q1⟩ rs1 r1 k1 => ?_⟩
    obtain ⟨a, vs, rfl, hv⟩ := isLst_tyV rs1.hr q0 r1
    refine ⟨.inl ⟨rfl, vs, .inl (.inl hv)⟩, σD, h1, _, rs1, q1, fun ds h2 xs H2 q2 rs2 r2 k2 => ?_⟩
    exact ad σD σ h2 H2 d1 _ ds xs QD Q rs2 (r1.mono (k2.tup rs1.hr)) r2 q2 (p.after (k1.trans k2))
theorem de_meth0 (h : PE X e (tBM0 X.K "list" r (LE X.K to))) (ad : AdM X.K rd r) : DE X e (dBmL0 rd to) :=
  h.imp fun σ H Q ⟨σD, h, QD, rs, q, p⟩ => by
    refine ⟨σD, h, _, rs, q, fun d1 h1 v1 H1 ⟨q0, q1⟩ rs1 r1 k1 => ?_⟩
    obtain ⟨a, vs, rfl, hv⟩ := isLst_tyV rs1.hr q0 r1
    exact ⟨.inl ⟨rfl, vs, .inl (.inl hv)⟩, ad σD σ h1 H1 d1 _ [] [] QD Q rs1 r1 (by simp [Reps]) q1 (p.after k1)⟩
end

/-! ### operators of every kind -/
theorem OpR.orD {X : Cx} {f : Value → Value → Sem Value} {r r' : R2} (a : OpR X f r) (b : OpR X f r') : OpR X f (fun x y H Q => r x y H Q ∨ r' x y H Q) := by
  intro pins s σ H x y v u Q I rx ry q
  rcases q with q | q
  · exact a pins s σ H x y v u Q I rx ry q
  · exact b pins s σ H x y v u Q I rx ry q
def rAddD : DR2 := fun x y h Q => match x, y with
  | .int i, .int j => Q (.int (i + j)) h
  | .tup a, .tup b => a.length + b.length ≤ sizeLine ∧ Q (.tup (a ++ b)) h
  | .ref a, .ref b => match h a, h b with
    | some (.lst ds), some (.lst es) => ds.length + es.length ≤ sizeLine ∧ ∀ p, h p = none → Q (.ref p) (updD h p (.lst (ds ++ es)))
    | _, _ => False
  | _, _ => False
theorem op_addU {X : Cx} : OpR X (binaryOp .Add) (fun x y H Q => (rI0 fun i j => .int (i + j)) x y H Q ∨ rCatA X.K x y H Q ∨ rCat x y H Q) := OpR.orD op_add (OpR.orD op_catA op_cat)
theorem ad_add {K : PySem.W.Frag} : Ad2 K rAddD (fun x y H Q => (rI0 fun i j => .int (i + j)) x y H Q ∨ rCatA K x y H Q ∨ rCat x y H Q) := by
  intro σD σ h H dx dy x y QD Q rs rx ry q p
  unfold rAddD at q
  split at q
  · rename_i i j
    exact .inl ⟨i, j, rep_int rx, rep_int ry, p _ h _ H q rs (by simp [Rep]) .refl⟩
  · rename_i a b
    obtain ⟨ln, q⟩ := q
    obtain ⟨p1, vs, rfl, s1, r1⟩ := rep_tup rx
    obtain ⟨p2, ws, rfl, s2, r2⟩ := rep_tup ry
    refine .inr (.inl ⟨p1, p2, vs, ws, rfl, rfl, s1, s2, by rw [← r1.len, ← r2.len]; exact ln, ?_, ?_, fun _ _ => p.tup rs (r1.append r2) q⟩)
    · rintro rfl
      have e : a = [] := List.eq_nil_of_length_eq_zero (by rw [r1.len]; rfl)
      subst e
      exact p _ h _ H q rs ry .refl
    · rintro _ rfl
      have e : b = [] := List.eq_nil_of_length_eq_zero (by rw [r2.len]; rfl)
      subst e
      rw [List.append_nil] at q
      exact p _ h _ H q rs rx .refl
  · rename_i a b
    split at q
    · rename_i es fs e1 e2
      obtain ⟨ln, q⟩ := q
      obtain rfl := rep_ref rx
      obtain rfl := rep_ref ry
      obtain ⟨vs, hv, r⟩ := rs.hr.lst e1
      obtain ⟨ws, hw, r'⟩ := rs.hr.lst e2
      exact .inr (.inr ⟨a, b, vs, ws, rfl, rfl, hv, hw, by rw [← r.len, ← r'.len]; exact ln, p.lst rs (r.append r') q⟩)
    · exact q.elim
  · exact q.elim
/-- one factor is below 2 ^ 64 -/
def mulC (i j : Int) : Prop := (-18446744073709551616 < i ∧ i < 18446744073709551616) ∨ (-18446744073709551616 < j ∧ j < 18446744073709551616)
def rMulD : DR2 := fun x y h Q => match x, y with
  | .int i, .int j => mulC i j ∧ Q (.int (i * j)) h
  | .ref a, .int k => match h a with
    | some (.lst ds) => (-(2 ^ 63) ≤ k ∧ k < 2 ^ 63 ∧ ds.length * k.toNat ≤ sizeLine) ∧ ∀ p, h p = none → Q (.ref p) (updD h p (.lst (List.replicate k.toNat ds).flatten))
    | _ => False
  | .tup ds, .int k => (ds ≠ [] ∧ 2 ≤ k ∧ k ≤ 1000 ∧ ds.length ≤ 1000) ∧ Q (.tup (List.replicate k.toNat ds).flatten) h
  | _, _ => False
theorem op_mulU {X : Cx} : OpR X (binaryOp .Mult) (fun x y H Q => (rI CMul fun i j => .int (i * j)) x y H Q ∨ rRep x y H Q ∨ rRepT X.K x y H Q) := OpR.orD op_mul (OpR.orD op_rep op_repT)
theorem ad_mul {K : PySem.W.Frag} : Ad2 K rMulD (fun x y H Q => (rI CMul fun i j => .int (i * j)) x y H Q ∨ rRep x y H Q ∨ rRepT K x y H Q) := by
  intro σD σ h H dx dy x y QD Q rs rx ry q p
  unfold rMulD at q
  split at q
  · rename_i i j
    obtain ⟨c, q⟩ := q
    exact .inl ⟨i, j, rep_int rx, rep_int ry, c, p _ h _ H q rs (by simp [Rep]) .refl⟩
  · rename_i a k
    split at q
    · rename_i es e1
      obtain ⟨⟨c1, c2, c3⟩, q⟩ := q
      obtain rfl := rep_ref rx
      obtain rfl := rep_int ry
      obtain ⟨vs, hv, r⟩ := rs.hr.lst e1
      exact .inr (.inl ⟨a, k, vs, rfl, rfl, hv, c1, c2, by rw [← r.len]; exact c3, p.lst rs (r.flat _) q⟩)
    · exact q.elim
  · rename_i es k
    obtain ⟨⟨c1, c2, c3, c4⟩, q⟩ := q
    obtain ⟨p1, vs, rfl, s1, r1⟩ := rep_tup rx
    obtain rfl := rep_int ry
    refine .inr (.inr ⟨p1, k, vs, rfl, rfl, s1, ?_, c2, c3, by rw [← r1.len]; exact c4, p.tup rs (r1.flat _) q⟩)
    rintro rfl
    exact c1 (List.eq_nil_of_length_eq_zero (by rw [r1.len]; rfl))
  · exact q.elim
def rSubD : DR2 := rII (fun _ _ => True) fun i j => i - j
def rModD : DR2 := rII (fun _ j => 0 < j) fun i j => i % j
def rDivD : DR2 := rII (fun _ j => 0 < j ∧ j < 1073741824) fun i j => i / j
def rShrD : DR2 := rII (fun _ j => 0 ≤ j) fun i j => i / 2 ^ j.toNat
def rShlD : DR2 := rII (fun i j => 0 ≤ j ∧ j ≤ 1000000 ∧ -18446744073709551616 < i ∧ i < 18446744073709551616) fun i j => i * 2 ^ j.toNat
def rPowD : DR2 := rII (fun i j => 0 ≤ j ∧ j ≤ 1000000 ∧ -18446744073709551616 < i ∧ i < 18446744073709551616) fun i j => i ^ j.toNat
section
variable {K : PySem.W.Frag}
theorem ad_sub : Ad2 K rSubD (rI0 fun i j => .int (i - j)) := ad_ii0 fun _ _ => rfl
theorem ad_mod : Ad2 K rModD (rI (fun _ j => j ≠ 0) fun i j => .int (i.fmod j)) := ad_ii (fun _ j c => by omega) fun i j c => by rw [Int.fmod_eq_emod_of_nonneg i (by omega)]
theorem ad_div : Ad2 K rDivD (rI CDivN fun i j => .int (i.fdiv j)) := ad_ii (fun _ j c => by unfold CDivN; omega) fun i j c => by rw [Int.fdiv_eq_ediv_of_nonneg i (by omega)]
theorem ad_shr : Ad2 K rShrD (rI (fun _ j => 0 ≤ j) fun i j => .int (i / 2 ^ j.toNat)) := ad_ii (fun _ j c => c) fun i j c => rfl
theorem natAbs_lt {i : Int} (h1 : -18446744073709551616 < i) (h2 : i < 18446744073709551616) : i.natAbs < 2 ^ 64 := by
  have e : (2 : Nat) ^ 64 = 18446744073709551616 := by decide
  rw [e]; omega
theorem ad_shl : Ad2 K rShlD (rI CPow fun i j => .int (i * 2 ^ j.toNat)) := ad_ii (fun i j c => ⟨c.1, c.2.1, natAbs_lt c.2.2.1 c.2.2.2⟩) fun i j c => rfl
theorem ad_pow : Ad2 K rPowD (rI CPow fun i j => .int (i ^ j.toNat)) := ad_ii (fun i j c => ⟨c.1, c.2.1, natAbs_lt c.2.2.1 c.2.2.2⟩) fun i j c => rfl
theorem ad_lt : Ad2 K (rIB fun i j => decide (i < j)) (rI0 fun i j => .bl (decide (i < j))) := ad_ib0 fun _ _ => rfl
theorem ad_le : Ad2 K (rIB fun i j => decide (i ≤ j)) (rI0 fun i j => .bl (decide (i ≤ j))) := ad_ib0 fun _ _ => rfl
theorem ad_gt : Ad2 K (rIB fun i j => decide (j < i)) (rI0 fun i j => .bl (decide (j < i))) := ad_ib0 fun _ _ => rfl
theorem ad_ge : Ad2 K (rIB fun i j => decide (j ≤ i)) (rI0 fun i j => .bl (decide (j ≤ i))) := ad_ib0 fun _ _ => rfl
end
/-- i & (2 ^ k - 1) -/
def rAndM : DR2 := fun x y h Q => match x, y with
  | .int i, .int j => ∃ k : Nat, j = 2 ^ k - 1 ∧ Q (.int (i % 2 ^ k)) h
  | _, _ => False
theorem ad_andM {K : PySem.W.Frag} : Ad2 K rAndM (fun x y H Q => ∃ (i : Int) (k : Nat), x = .int i ∧ y = .int (2 ^ k - 1) ∧ Q (.int (i % 2 ^ k)) H) := by
  intro σD σ h H dx dy x y QD Q rs rx ry q p
  unfold rAndM at q
  split at q
  · rename_i i j
    obtain ⟨k, rfl, q⟩ := q
    exact ⟨i, k, rep_int rx, rep_int ry, p _ h _ H q rs (by simp [Rep]) .refl⟩
  · exact q.elim
/-- -x -/
def rNegD : D → DH → DK → Prop := fun x h Q => match x with
  | .int i => Q (.int (-i)) h
  | _ => False
def dUn (r : D → DH → DK → Prop) (ta : DTE) : DTE := fun σ h Q => ta σ h fun x h1 => r x h1 Q
theorem ad_neg {K : PySem.W.Frag} : Ad1 K rNegD (rU fun i => .int (-i)) := by
  intro σD σ h H dx x QD Q rs rx q p
  unfold rNegD at q
  split at q
  · rename_i i
    exact ⟨i, rep_int rx, p _ h _ H q rs (by simp [Rep]) .refl⟩
  · exact q.elim
theorem de_un {X : Cx} {op : UnaryOp} {a : Expr} {ta : DTE} {pos : Pos} {r : V → Hp → VK → Prop} {rd : D → DH → DK → Prop} (ho : UnR X (unaryOp op) r) (ad : Ad1 X.K rd r) (ha : DE X a ta) : DE X (.UnaryOp op a pos) (dUn rd ta) :=
  (pe_un ho ha).imp fun σ H Q ⟨σD, h, QD, rs, q, p⟩ => ⟨σD, h, _, rs, q, fun d1 h1 v1 H1 q1 rs1 r1 k1 => ad σD σ h1 H1 d1 v1 QD Q rs1 r1 q1 (p.after k1)⟩

/-! ### == and != of data -/
def pyAll (f : D → Option PyData) : List D → Option (List PyData)
  | [] => some []
  | d :: ds => match f d, pyAll f ds with
    | some x, some xs => some (x :: xs)
    | _, _ => none
def pyD (h : DH) : Nat → D → Option PyData
  | 0, _ => none
  | n + 1, d => match d with
    | .non => some .none
    | .bl b => some (.bool b)
    | .int i => some (.int i)
    | .str x => some (.str x)
    | .tup ds => (pyAll (pyD h n) ds).map .tuple
    | .rol ds => (pyAll (pyD h n) ds).map .list
    | .ref a => match h a with
      | some (.lst ds) => (pyAll (pyD h n) ds).map .list
      | _ => none
    | .ty _ => none
theorem pyAll_dp {K : PySem.W.Frag} {H : Hp} {f : D → Option PyData} (hf : ∀ d v p, f d = some p → Rep K H d v → Dp K H v p) : ∀ {ds : List D} {vs : List V} {ps : List PyData}, pyAll f ds = some ps → Reps K H ds vs → DpAll K H vs ps
  | [], _, _, e, r => by obtain rfl := reps_nil r; cases e; exact .nil
  | d :: ds, _, ps, e, r => by
    obtain ⟨v, r', rfl, a, b⟩ := reps_cons r
    unfold pyAll at e
    split at e
    · rename_i x xs e1 e2
      cases e
      exact .cons (hf _ _ _ e1 a) (pyAll_dp hf e2 b)
    · cases e
theorem pyD_dp {K : PySem.W.Frag} {H : Hp} {h : DH} (hr : HR K H h) : ∀ (n : Nat) (d : D) (v : V) (p : PyData), pyD h n d = some p → Rep K H d v → Dp K H v p
  | 0, _, _, _, e, _ => by cases e
  | n + 1, d, v, p, e, r => by
    cases d with
    | non => cases e; rw [show v = V.non by simpa [Rep] using r]; exact .non
    | bl b => cases e; rw [rep_bl r]; exact .bl b
    | int i => cases e; rw [rep_int r]; exact .int i
    | str x => cases e; rw [rep_str r]; exact .str x
    | ty m => cases e
    | tup ds =>
      obtain ⟨a, vs, rfl, s, r⟩ := rep_tup r
      have e' : (pyAll (pyD h n) ds).map PyData.tuple = some p := e
      cases q : pyAll (pyD h n) ds with
      | none => rw [q] at e'; cases e'
      | some ps => rw [q] at e'; cases e'; exact .tup s (pyAll_dp (pyD_dp hr n) q r)
    | rol ds =>
      obtain ⟨a, vs, rfl, s, r⟩ := rep_rol r
      have e' : (pyAll (pyD h n) ds).map PyData.list = some p := e
      cases q : pyAll (pyD h n) ds with
      | none => rw [q] at e'; cases e'
      | some ps => rw [q] at e'; cases e'; exact .lst s.sql (pyAll_dp (pyD_dp hr n) q r)
    | ref a =>
      obtain rfl := rep_ref r
      have e' : (match h a with
        | some (.lst ds) => (pyAll (pyD h n) ds).map PyData.list
        | _ => none) = some p := e
      split at e'
      · rename_i ds z
        obtain ⟨vs, s, r⟩ := hr.sql z
        cases q : pyAll (pyD h n) ds with
        | none => rw [q] at e'; cases e'
        | some ps => rw [q] at e'; cases e'; exact .lst s (pyAll_dp (pyD_dp hr n) q r)
      · cases e'
def rEqU : DR2 := fun x y h Q => match pyD h 12 x, pyD h 12 y with
  | some p, some q => SeqAt.shaped p = true ∧ SeqAt.shaped q = true ∧ Q (.bl (PyData.eqv p q)) h
  | _, _ => False
def rNeU : DR2 := fun x y h Q => match pyD h 12 x, pyD h 12 y with
  | some p, some q => SeqAt.shaped p = true ∧ SeqAt.shaped q = true ∧ Q (.bl (!PyData.eqv p q)) h
  | _, _ => False
theorem ad_eqU {K : PySem.W.Frag} : Ad2 K rEqU (rEqD K) := by
  intro σD σ h H dx dy x y QD Q rs rx ry q p
  unfold rEqU at q
  split at q
  · rename_i a b e1 e2
    obtain ⟨s1, s2, q⟩ := q
    exact ⟨a, b, pyD_dp rs.hr _ _ _ _ e1 rx, pyD_dp rs.hr _ _ _ _ e2 ry, s1, s2, p _ h _ H q rs (by simp [Rep]) .refl⟩
  · exact q.elim
theorem ad_neU {K : PySem.W.Frag} : Ad2 K rNeU (rNeD K) := by
  intro σD σ h H dx dy x y QD Q rs rx ry q p
  unfold rNeU at q
  split at q
  · rename_i a b e1 e2
    obtain ⟨s1, s2, q⟩ := q
    exact ⟨a, b, pyD_dp rs.hr _ _ _ _ e1 rx, pyD_dp rs.hr _ _ _ _ e2 ry, s1, s2, p _ h _ H q rs (by simp [Rep]) .refl⟩
  · exact q.elim
theorem shaped_int (i : Int) : SeqAt.shaped (.int i) = true := by rfl
theorem rEqU_int (i j : Int) (h : DH) (Q : DK) : rEqU (.int i) (.int j) h Q = Q (.bl (i == j)) h := by
  show (SeqAt.shaped (.int i) = true ∧ SeqAt.shaped (.int j) = true ∧ Q (.bl (PyData.eqv (.int i) (.int j))) h) = _
  rw [shaped_int, shaped_int]
  simp [PyData.eqv]
theorem rNeU_int (i j : Int) (h : DH) (Q : DK) : rNeU (.int i) (.int j) h Q = Q (.bl (!(i == j))) h := by
  show (SeqAt.shaped (.int i) = true ∧ SeqAt.shaped (.int j) = true ∧ Q (.bl (!PyData.eqv (.int i) (.int j))) h) = _
  rw [shaped_int, shaped_int]
  simp [PyData.eqv]
/-- equal data -/
theorem rEqU_same {x y : D} {h : DH} {Q : DK} {p : PyData} (e1 : pyD h 12 x = some p) (e2 : pyD h 12 y = some p) (s : SeqAt.shaped p = true) (q : Q (.bl true) h) : rEqU x y h Q := by
  unfold rEqU
  rw [e1, e2]
  refine ⟨s, s, ?_⟩
  rw [SeqAt.eqv_refl p (SeqAt.canLay_of_shaped s)]
  exact q
theorem rNeU_same {x y : D} {h : DH} {Q : DK} {p : PyData} (e1 : pyD h 12 x = some p) (e2 : pyD h 12 y = some p) (s : SeqAt.shaped p = true) (q : Q (.bl false) h) : rNeU x y h Q := by
  unfold rNeU
  rw [e1, e2]
  refine ⟨s, s, ?_⟩
  rw [SeqAt.eqv_refl p (SeqAt.canLay_of_shaped s)]
  exact q

/-! ### is None -/
def rIsN : DR2 := fun x y h Q => match y with
  | .non => match x with
    | .non => Q (.bl true) h
    | _ => Q (.bl false) h
  | _ => False
def rNotN : DR2 := fun x y h Q => match y with
  | .non => match x with
    | .non => Q (.bl false) h
    | _ => Q (.bl true) h
  | _ => False
theorem rep_non_iff {K : PySem.W.Frag} {H : Hp} {d : D} {v : V} (r : Rep K H d v) : (v = .non ↔ d = .non) := by
  cases d with
  | non => simp [show v = V.non by simpa [Rep] using r]
  | bl b => simp [rep_bl r]
  | int b => simp [rep_int r]
  | str b => simp [rep_str r]
  | ty b => simp [rep_ty r]
  | ref b => simp [rep_ref r]
  | tup b => obtain ⟨_, _, rfl, _⟩ := rep_tup r; simp
  | rol b => obtain ⟨_, _, rfl, _⟩ := rep_rol r; simp
theorem ad_isN {K : PySem.W.Frag} : Ad2 K rIsN (fun x y H Q => y = .non ∧ Q (.bl (decide (x = .non))) H) := by
  intro σD σ h H dx dy x y QD Q rs rx ry q p
  unfold rIsN at q
  split at q
  · refine ⟨by simpa [Rep] using ry, ?_⟩
    split at q
    · rw [decide_eq_true ((rep_non_iff rx).mpr rfl)]
      exact p _ h _ H q rs (by simp [Rep]) .refl
    · rename_i n
      rw [decide_eq_false (fun z => n ((rep_non_iff rx).mp z))]
      exact p _ h _ H q rs (by simp [Rep]) .refl
  · exact q.elim

/-! ### isinstance -/
def kindD (h : DH) : D → Option String
  | .non => some "NoneType"
  | .bl _ => some "bool"
  | .int _ => some "int"
  | .str _ => some "str"
  | .tup _ => some "tuple"
  | .ref a => match h a with
    | some (.lst _) => some "list"
    | some (.dct _) => some "dict"
    | _ => none
  | _ => none
def kitsB (k : String) : List D → Option Bool
  | [] => some false
  | .ty n :: r => match kitB k n with
    | some true => some true
    | some false => kitsB k r
    | none => none
  | _ :: _ => none
def rIsiD : List D → DH → DK → Prop := fun xs h Q => match xs with
  | [x, .ty n] => match kindD h x with
    | some k => match kitB k n with
      | some b => Q (.bl b) h
      | none => False
    | none => False
  | [x, .tup ts] => match kindD h x with
    | some k => match kitsB k ts with
      | some b => Q (.bl b) h
      | none => False
    | none => False
  | _ => False
end DL

namespace DL
open PySem PySem.Spec L2
open PyProof.Rows hiding St

/-! ### isinstance, further -/
theorem kind_ty {K : PySem.W.Frag} {H : Hp} {h : DH} {d : D} {v : V} {k : String} (hr : HR K H h) (e : kindD h d = some k) (r : Rep K H d v) : TyX K H v (.type k) := by
  cases d with
  | non => cases e; rw [show v = V.non by simpa [Rep] using r]; exact .base .non
  | bl b => cases e; rw [rep_bl r]; exact .base (.bl b)
  | int b => cases e; rw [rep_int r]; exact .base (.int b)
  | str b => cases e; rw [rep_str r]; exact .base (.str b)
  | ty b => cases e
  | rol b => cases e
  | tup ds =>
    cases e
    obtain ⟨a, vs, rfl, s, _⟩ := rep_tup r
    rcases s with (s | ⟨o, s⟩) | ⟨o, its, n, s, c, _⟩
    · exact .base (.tup s)
    · exact .fTuple s
    · exact .kTuple s c
  | ref a =>
    obtain rfl := rep_ref r
    have e' : (match h a with
      | some (.lst _) => some "list"
      | some (.dct _) => some "dict"
      | _ => none) = some k := e
    split at e'
    · rename_i ds z
      cases e'
      obtain ⟨vs, s, _⟩ := hr.lst z
      exact .base (.lst s)
    · rename_i ds z
      cases e'
      obtain ⟨u, hu, w⟩ := hr a _ z
      cases u with
      | dK kvs => exact .base (.dK hu)
      | _ => exact w.elim
    · cases e'
def kitsN (k : String) : List String → Option Bool
  | [] => some false
  | n :: r => match kitB k n with
    | some true => some true
    | some false => kitsN k r
    | none => none
theorem kitsN_any {K : PySem.W.Frag} {k : String} : ∀ {ns : List String} {b : Bool}, kitsN k ns = some b → PySem.W.kitAny K (.type k) (ns.map Value.type) = some b
  | [], b, e => by cases e; rfl
  | n :: ns, b, e => by
    unfold kitsN at e
    rw [List.map_cons]
    split at e
    · rename_i q
      cases e
      exact kitAny_cons (kit_ty q) (fun z => by cases z) (fun _ => rfl)
    · rename_i q
      exact kitAny_cons (kit_ty q) (fun _ => kitsN_any e) (fun z => by cases z)
    · cases e
theorem cls_tys : ∀ ns : List String, Paired ClsV (ns.map V.ty) (ns.map Value.type)
  | [] => .nil
  | n :: ns => .cons (.ty n) (cls_tys ns)
/-- isinstance(x, T) -/
def rIsi1 : List D → DH → DK → Prop := fun xs h Q => match xs with
  | [x, .ty n] => match kindD h x with
    | some k => match kitB k n with
      | some b => Q (.bl b) h
      | none => False
    | none => False
  | _ => False
theorem ad_isi {K : PySem.W.Frag} : AdA K rIsi1 (rIsi K) := by
  intro σD σ h H dx x QD Q rs rx q p
  unfold rIsi1 at q
  split at q
  · rename_i d n
    split at q
    · rename_i k e1
      split at q
      · rename_i b e2
        obtain ⟨v, w, rfl, rv, rw⟩ := reps_two rx
        obtain rfl := rep_ty rw
        exact ⟨v, .ty n, .type k, .type n, b, rfl, .ty n, kind_ty rs.hr e1 rv, kit_ty e2, p _ h _ H q rs (by simp [Rep]) .refl⟩
      · exact q.elim
    · exact q.elim
  · exact q.elim
/-- isinstance(x, (T, ..)) -/
def dIsiT (ns : List String) (te : DTE) : DTE := fun σ h Q => te σ h fun x h1 => match kindD h1 x with
  | some k => match kitsN k ns with
    | some b => Q (.bl b) h1
    | none => False
  | none => False
theorem de_isiT {X : Cx} {e : Expr} {te : DTE} {names : List Expr} {t : TA} {ns : List String} {x1} {tp p pos : Pos} (hg : Gl X "isinstance") (hm : X.mg "isinstance" = none) (hv : bootBuiltins "isinstance" = some (.builtin "isinstance")) (he : DE X e te) (hn : PA X names t) (ht : ∀ σ H Q, Q (ns.map V.ty) H → t σ H Q) (hz : ns.length ≤ sizeLine)
    (hs : starEach (e :: [.Tuple names x1 tp]) X.env = (false, eval e X.env) :: starEach [.Tuple names x1 tp] X.env := by rfl) (hs2 : starEach [Expr.Tuple names x1 tp] X.env = [(false, eval (.Tuple names x1 tp) X.env)] := by rfl) :
    DE X (.Call (.Name "isinstance" p) [e, .Tuple names x1 tp] [] pos) (dIsiT ns te) :=
  (pe_callB call_isiT hg hm hv (pa_cons he (pa_cons (pe_tup hn) pa_nil (by rw [hs2]; rfl)) hs) (by decide) (by decide) hs (by rw [hs2]; rfl)).imp fun σ H Q ⟨σD, h, QD, rs, q, p⟩ => by
    refine ⟨σD, h, _, rs, q, fun d1 h1 v1 H1 q1 rs1 r1 k1 => ?_⟩
    split at q1
    · rename_i k e1
      split at q1
      · rename_i b e2
        refine ht σ H1 _ ⟨by rw [List.length_map]; exact hz, fun a na => ?_⟩
        refine ⟨v1, a, ns.map V.ty, .type k, ns.map Value.type, b, rfl, upd_same, cls_tys ns, kind_ty (rs1.hr.hid na) e1 (r1.mono (tupMono_new na)), kitsN_any e2, ?_⟩
        exact p _ h1 _ _ q1 (rs1.hid na) (by simp [Rep]) (k1.trans (.hid na))
      · exact q1.elim
    · exact q1.elim

/-! ### star in displays -/
def dStar (te : DTE) (t : DTA) : DTA := fun σ h Q => te σ h fun x h1 => match itemsD h1 x with
  | some ds => t σ h1 fun es h2 => Q (ds ++ es) h2
  | none => False
theorem da_star {X : Cx} {e : Expr} {es : List Expr} {te : DTE} {t : DTA} {p : Pos} (he : DE X e te) (hr : DA X es t) (hs : starEach (.Starred e p :: es) X.env = (true, eval e X.env) :: starEach es X.env := by rfl) : DA X (.Starred e p :: es) (dStar te t) :=
  (StX.pa_star he hr hs).imp fun σ H Q ⟨σD, h, QD, rs, q, p⟩ => by
    refine ⟨σD, h, _, rs, q, fun d1 h1 v1 H1 q1 rs1 r1 k1 => ?_⟩
    split at q1
    · rename_i ds e1
      obtain ⟨a, vs, rfl, s, r⟩ := items_of rs1.hr e1 r1
      refine ⟨a, vs, rfl, s.symm, σD, h1, _, rs1, q1, fun es h2 ws H2 q2 rs2 r2 k2 => ?_⟩
      exact p _ h2 _ H2 q2 rs2 ((r.mono (k2.tup rs1.hr)).append r2) (k1.trans k2)
    · exact q1.elim

/-! ### names of what is built in -/
theorem de_ty {X : Cx} {x : Str} {n : String} {pos : Pos} (hg : Gl X x) (hm : X.mg x = none) (hv : bootBuiltins x = some (.type n)) (hn : x ≠ "__name__" := by decide) (hd : (x == ("__debug__" : Str)) = false := by decide) : DE X (.Name x pos) (dC (.ty n)) :=
  (pe_bltn (v := .ty n) hg hm hv rfl hn hd).imp fun _ _ _ => LE.const fun _ => by simp [Rep]

/-! ### a def, by data -/
def startD (N : List Str) (ds : List D) : DS := ds.map some ++ List.replicate (N.length - ds.length) none
theorem srep_map {K : PySem.W.Frag} {H : Hp} : ∀ {ds : List D} {vs : List V}, Reps K H ds vs → SRep K H (ds.map some) (vs.map some)
  | [], _, r => by obtain rfl := reps_nil r; rfl
  | _ :: _, _, r => by
    obtain ⟨v, r', rfl, a, b⟩ := reps_cons r
    exact ⟨some v, _, rfl, a, srep_map b⟩
theorem srep_none {K : PySem.W.Frag} {H : Hp} : ∀ n : Nat, SRep K H (List.replicate n none) (List.replicate n none)
  | 0 => rfl
  | n + 1 => ⟨none, _, rfl, trivial, srep_none n⟩
theorem SRep.append {K : PySem.W.Frag} {H : Hp} : ∀ {d1 d2 : DS} {s1 s2 : St}, SRep K H d1 s1 → SRep K H d2 s2 → SRep K H (d1 ++ d2) (s1 ++ s2)
  | [], _, _, _, a, b => by
    have e : _ = [] := a
    subst e; simpa using b
  | _ :: _, _, _, _, ⟨v, r, rfl, x, y⟩, b => ⟨v, _, rfl, x, SRep.append y b⟩
/-- where a def's body ends: part of the heap of data may be let go -/
def endD (Q : DK) : DEnds := { nx := fun _ h' => ∃ h'', Sub h'' h' ∧ Q .non h'', rt := fun d h' => ∃ h'', Sub h'' h' ∧ Q d h'' }
section
variable {P : Program} {w : World} {K : PySem.W.Frag} {mg : Str → Option Value} {base : Heap} {x qual : Str} {st : Stmt} {f : Addr} {fd : FuncData} {N ps : List Str} {k : Nat} {sp : DSp} {t : DTS}
theorem start_rep {h : DH} {H : Hp} {ds : List D} {vs : List V} (r : Reps K H ds vs) (hr : HR K H h) : RS K (startD N ds) h (L2.start N vs) H := by
  refine ⟨?_, hr⟩
  unfold startD L2.start
  rw [r.len]
  exact (srep_map r).append (srep_none _)
theorem end_post {h : DH} {H : Hp} {QD : DK} {Q : VK} (post : ∀ d h' v H', QD d h' → HR K H' h' → Rep K H' d v → Keep h H h' H' → Q v H') : PostS K h H (endD QD) { nx := fun _ H' => Q .non H', rt := Q } where
  nx := fun σD' h' σ' H' ⟨h'', s, q⟩ rs k => post .non h'' .non H' q (rs.hr.sub s) (by simp [Rep]) (k.sub s)
  bk := fun _ _ _ _ q _ _ => q
  ct := fun _ _ _ _ q _ _ => q
  rt := fun d h' v H' ⟨h'', s, q⟩ hr r k => post d h'' v H' q (hr.sub s) r (k.sub s)
theorem fnD (F : Fun K x qual st f fd) (S : FnScope N ps (defScope st)) (len : ∀ ds h Q, sp ds h Q → ds.length = ps.length)
    (term : ∀ (cdv : Value) (A : Around) (outer : List Env) (s : Shared) (H : Hp) (E : XK), Room k (A.deeper (envOfC qual (defScope st) s.heap.objs.size f cdv)) → DSs (cxOf CX0 P w K mg base N qual (defScope st) f cdv A outer s H E).nox (defBody st) t)
    (pure : ∀ ds h Q, sp ds h Q → t (endD Q) (startD N ds) h) : FnOk P w K mg base CX0 (k + 1) f fd ps (liftF K sp) := by
  refine F.ok S (fun vs H Q E ⟨ds, h, QD, r, hr, q, post⟩ => by rw [← r.len]; exact len _ _ _ q) fun cdv A outer s H vs Q E hr ⟨ds, h, QD, r, hR, q, post⟩ => ?_
  exact ⟨_, term cdv A outer s H E hr, startD N ds, h, endD QD, start_rep r hR, pure ds h QD q, end_post post⟩
end
end DL

namespace DL
open PySem PySem.Spec L2
open PyProof.Rows hiding St

/-! ### comprehensions of two -/
def dLc2 (ti : DTI) (g : DTG) (tt : DTT) (ti1 : DTI) (g1 : DTG) (tt1 : DTT) (te : DTE) (vs vs1 : List Nat) : DTL := fun σ h Q => ti σ h fun its stay h1 => ∃ P : Nat → List D → DH → Prop, P 0 [] h1 ∧ ∀ i acc h, P i acc h → stay h ∧
  (∀ d, its[i]? = some d → g d (dwipe σ vs) h fun σ2 h2 => tt σ2 h2 fun b h3 => if b = true then
    ti1 σ2 h3 fun its1 stay1 h4 => ∃ P1 : Nat → List D → DH → Prop, P1 0 acc h4 ∧ ∀ j acc h, P1 j acc h → stay1 h ∧
      (∀ d, its1[j]? = some d → g1 d (dwipe σ2 vs1) h fun σ3 h5 => tt1 σ3 h5 fun b h6 => if b = true then te σ3 h6 fun y h7 => acc.length < sizeLine ∧ P1 (j + 1) (acc ++ [y]) h7 else P1 (j + 1) acc h6) ∧ (j = its1.length → P (i + 1) acc h)
    else P (i + 1) acc h3) ∧ (i = its.length → Q acc h)
theorem ll_lc2 {K : PySem.W.Frag} {ti ti1 : DTI} {is is1 : List Nat} {g g1 : DTG} {tt tt1 : DTT} {te : DTE} {vs vs1 : List Nat} (his : ∀ i ∈ is, i ∈ vs) (his1 : ∀ i ∈ is1, i ∈ vs1) (σ0 : St) (H0 : Hp) (Q : VK) (q : LL K (dLc2 ti g tt ti1 g1 tt1 te vs vs1) σ0 H0 Q) :
    tLc2 (LI K ti) (LG K is g) (LT K tt) (LI K ti1) (LG K is1 g1) (LT K tt1) (LE K te) vs vs1 σ0 H0 Q := by
  obtain ⟨σD0, h0, QD, rs0, q, p⟩ := q
  refine ⟨σD0, h0, _, rs0, q, ?_⟩
  rintro its stay h1 J H1 ⟨P, p0, turn⟩ rs1 k1 Wk D nD
  have xD : ∀ o, H0 D = some o → h0 D = none → False := fun o z n => by
    have e := (k1 D o z n).1
    rw [nD] at e; cases e
  let R : Nat → Hp → Prop := fun i H => ∃ acc h vsA, HR K H h ∧ P i acc h ∧ H D = some (.lst vsA) ∧ Reps K H acc vsA ∧ h D = none ∧ TupMono H1 H ∧ Keep h0 H0 h H
  refine ⟨fun i m H => m = its.length - i ∧ i ≤ its.length ∧ R i H, ⟨its.length, by simp, Nat.zero_le _, [], h1, [], rs1.hr.hid nD, p0, upd_same, by simp [Reps], rs1.hr.none nD, tupMono_new nD, k1.trans (.hid nD)⟩, ?_⟩
  rintro i m H ⟨rfl, hi, acc, h, vsA, hr, pi, hD, rA, nh, tm, k⟩
  obtain ⟨st, t1, t2⟩ := turn i acc h pi
  by_cases hlt : i < its.length
  · refine .inr ⟨Wk.go i h H hlt hr st tm, R (i + 1), fun H' r' => ⟨its.length - (i + 1), by omega, rfl, hlt, r'⟩, ?_⟩
    intro x H' y
    obtain ⟨d, ed, rd, hr', same⟩ := Wk.yld i h H x H' hlt hr st tm y
    have tm' : TupMono H H' := same_tup same
    refine ⟨d, dwipe σD0 vs, h, _, ⟨(rs1.sl.mono (tm.trans tm')).wipe vs, hr'⟩, rd, t1 d ed, fun σD2 h2 σ2 H2 q2 rs2 k2 on2 => ⟨(on2 vs his).trans (wipe_wipe σ0 vs), ?_⟩⟩
    refine ⟨σD2, h2, _, rs2, q2, fun b h3 H3 q3 rs3 k3 => ?_⟩
    have k23 := k2.trans k3
    have k03 : Keep h0 H0 h3 H3 := k.trans (Keep.trans (fun a o z n => ⟨same a o z, n⟩) k23)
    obtain ⟨hD3, nh3⟩ := k23 D _ (same D _ hD) nh
    have tm3 : TupMono H H3 := tm'.trans (k23.tup hr')
    cases b with
    | true =>
      rw [if_pos rfl] at q3
      show if true = true then _ else _
      rw [if_pos rfl]
      refine ⟨σD2, h3, _, rs3, q3, ?_⟩
      rintro its1 stay1 h4 J1 H4 ⟨P1, p10, turn1⟩ rs4 k4 Wk1
      obtain ⟨hD4, nh4⟩ := k4 D _ hD3 nh3
      have tm4 : TupMono H3 H4 := k4.tup rs3.hr
      let R1 : Nat → Hp → Prop := fun j H => ∃ acc h vsA, HR K H h ∧ P1 j acc h ∧ H D = some (.lst vsA) ∧ Reps K H acc vsA ∧ h D = none ∧ TupMono H4 H ∧ Keep h0 H0 h H
      refine ⟨fun j m H => m = its1.length - j ∧ j ≤ its1.length ∧ R1 j H, ⟨its1.length, by simp, Nat.zero_le _, acc, h4, vsA, rs4.hr, p10, hD4, rA.mono (tm3.trans tm4), nh4, .refl _, k03.trans k4⟩, ?_⟩
      rintro j m H5 ⟨rfl, hj, acc5, h5, vs5, hr5, pj, hD5, rA5, nh5, tm5, k5⟩
      obtain ⟨st1, t11, t12⟩ := turn1 j acc5 h5 pj
      have tmA : TupMono H1 H5 := tm.trans (tm3.trans (tm4.trans tm5))
      by_cases hlt1 : j < its1.length
      · refine .inr ⟨Wk1.go j h5 H5 hlt1 hr5 st1 tm5, R1 (j + 1), fun H' r' => ⟨its1.length - (j + 1), by omega, rfl, hlt1, r'⟩, ?_⟩
        intro x1 H6 y1
        obtain ⟨d1, ed1, rd1, hr6, same1⟩ := Wk1.yld j h5 H5 x1 H6 hlt1 hr5 st1 tm5 y1
        have tm6 : TupMono H5 H6 := same_tup same1
        have k06 : Keep h0 H0 h5 H6 := k5.trans fun a o z n => ⟨same1 a o z, n⟩
        refine ⟨d1, dwipe σD2 vs1, h5, _, ⟨(rs4.sl.mono (tm5.trans tm6)).wipe vs1, hr6⟩, rd1, t11 d1 ed1, fun σD7 h7 σ7 H7 q7 rs7 k7 on7 => ⟨(on7 vs1 his1).trans (wipe_wipe σ2 vs1), ?_⟩⟩
        refine ⟨σD7, h7, _, rs7, q7, fun b h8 H8 q8 rs8 k8 => ?_⟩
        have k78 := k7.trans k8
        cases b with
        | true =>
          rw [if_pos rfl] at q8
          show if true = true then _ else _
          rw [if_pos rfl]
          refine ⟨σD7, h8, _, rs8, q8, fun y h9 v H9 ⟨ln, q9⟩ rs9 r9 k9 => ?_⟩
          have k79 := k78.trans k9
          obtain ⟨hD9, nh9⟩ := k79 D _ (same1 D _ hD5) nh5
          have tm9 : TupMono H5 H9 := tm6.trans (k79.tup hr6)
          have tmo : TupMono H9 (upd H9 D (.lst (vs5 ++ [v]))) := tupMono_lst hD9
          refine ⟨vs5, hD9, by rw [← rA5.len]; exact ln, acc5 ++ [y], h9, vs5 ++ [v], rs9.hr.over hD9 nh9, q9, upd_same, ?_, nh9, tm5.trans (tm9.trans tmo), Keep.over (k06.trans k79) xD⟩
          exact (rA5.mono (tm9.trans tmo)).append (by unfold Reps; exact ⟨v, [], rfl, r9.mono tmo, by simp [Reps]⟩)
        | false =>
          rw [if_neg Bool.false_ne_true] at q8
          show if false = true then _ else _
          rw [if_neg Bool.false_ne_true]
          obtain ⟨hD8, nh8⟩ := k78 D _ (same1 D _ hD5) nh5
          have tm8 : TupMono H5 H8 := tm6.trans (k78.tup hr6)
          exact ⟨acc5, h8, vs5, rs8.hr, q8, hD8, rA5.mono tm8, nh8, tm5.trans tm8, k06.trans k78⟩
      · have e : j = its1.length := by omega
        subst e
        exact .inl ⟨Wk1.stop h5 H5 hr5 st1 tm5, acc5, h5, vs5, hr5, t12 rfl, hD5, rA5, nh5, tmA, k5⟩
    | false =>
      rw [if_neg Bool.false_ne_true] at q3
      show if false = true then _ else _
      rw [if_neg Bool.false_ne_true]
      exact ⟨acc, h3, vsA, rs3.hr, q3, hD3, rA.mono tm3, nh3, tm.trans tm3, k03⟩
  · have e : i = its.length := by omega
    subst e
    exact .inl ⟨Wk.stop h H hr st tm, p acc h D H vsA (t2 rfl) ⟨rs1.sl.mono tm, hr⟩ hD rA nh (fun o => k.overD xD) k⟩
section
variable {X : Cx} {elt tg iter tg1 iter1 : Expr} {ifs ifs1 : List Expr} {scope : Scope} {own : List (Str × Nat)} {vs1 : List Nat} {pos spos py : Pos} {y : Str} {ti ti1 : DTI} {is is1 : List Nat} {g g1 : DTG} {tt tt1 : DTT} {te : DTE}
theorem dl_lc2 (hc : X.calm = true) (hN : X.N.Nodup) (hi : DI X tg iter ti) (ok : BlkOk X.N X.env.scope scope own) (hv : ∀ i ∈ vs1, i ∈ own.map (·.2)) (his : ∀ i ∈ is, i ∈ own.map (·.2)) (his1 : ∀ i ∈ is1, i ∈ vs1)
    (hg : ∀ s H C cl fp, DG (X.blk s H scope (compEnvC scope cl C X.env) fp) tg is g) (ht : ∀ s H C cl fp, DTs (X.blk s H scope (compEnvC scope cl C X.env) fp) ifs tt)
    (hi1 : ∀ s H C cl fp, DI (X.blk s H scope (compEnvC scope cl C X.env) fp) tg1 iter1 ti1)
    (hg1 : ∀ s H C cl fp, DG (X.blk s H scope (compEnvC scope cl C X.env) fp) tg1 is1 g1) (ht1 : ∀ s H C cl fp, DTs (X.blk s H scope (compEnvC scope cl C X.env) fp) ifs1 tt1)
    (he : ∀ s H C cl fp, DE (X.blk s H scope (compEnvC scope cl C X.env) fp) elt te) (hs : ∀ x, foldedSetIterable iter X.env x = pure x := by intro _; rfl) (hs1 : ∀ env x, foldedSetIterable iter1 env x = pure x := by intro _ _; rfl) :
    DLC X (.ListComp elt [⟨tg, iter, ifs, 0⟩, ⟨tg1, iter1, ifs1, 0⟩] scope pos) (dLc2 ti g tt ti1 g1 tt1 te (own.map (·.2)) vs1) := (pe_lc2 hc hN hi ok hv hg ht hi1 hg1 ht1 he hs hs1).imp (ll_lc2 his his1)
theorem ds_lc2 (i : Nat) (hc : X.calm = true) (hN : X.N.Nodup) (hy : X.N[i]? = some y) (hyl : X.env.scope.names.lookup y = some .local)
    (hsw : swapsWith (.ListComp elt [⟨tg, iter, ifs, 0⟩, ⟨tg1, iter1, ifs1, 0⟩] scope pos) (some (.Name y py)) spos.line X.env = pure true) (hi : DI X tg iter ti) (ok : BlkOk X.N X.env.scope scope own) (hv : ∀ i ∈ vs1, i ∈ own.map (·.2)) (his : ∀ i ∈ is, i ∈ own.map (·.2)) (his1 : ∀ i ∈ is1, i ∈ vs1)
    (hg : ∀ s H C cl fp, DG (X.blk s H scope (compEnvC scope cl C X.env) fp) tg is g) (ht : ∀ s H C cl fp, DTs (X.blk s H scope (compEnvC scope cl C X.env) fp) ifs tt)
    (hi1 : ∀ s H C cl fp, DI (X.blk s H scope (compEnvC scope cl C X.env) fp) tg1 iter1 ti1)
    (hg1 : ∀ s H C cl fp, DG (X.blk s H scope (compEnvC scope cl C X.env) fp) tg1 is1 g1) (ht1 : ∀ s H C cl fp, DTs (X.blk s H scope (compEnvC scope cl C X.env) fp) ifs1 tt1)
    (he : ∀ s H C cl fp, DE (X.blk s H scope (compEnvC scope cl C X.env) fp) elt te) (hs : ∀ x, foldedSetIterable iter X.env x = pure x := by intro _; rfl) (hs1 : ∀ env x, foldedSetIterable iter1 env x = pure x := by intro _ _; rfl) :
    DSt X (.Assign [.Name y py] (.ListComp elt [⟨tg, iter, ifs, 0⟩, ⟨tg1, iter1, ifs1, 0⟩] scope pos) spos) (dLcSet i (dLc2 ti g tt ti1 g1 tt1 te (own.map (·.2)) vs1)) :=
  (ps_setLc2 (i := i) hc hN hy hyl hsw hi ok hv hg ht hi1 hg1 ht1 he hs hs1).imp fun Ds σ H ⟨σD, h, DD, rs, q, p⟩ => by
    refine ll_lc2 his his1 σ H (fun x H1 => gName i x σ H1 Ds.nx) ⟨σD, h, _, rs, q, fun acc h' D H' vs q1 rs1 e1 r1 n1 ku k1 => ?_⟩
    have rs2 := rs1.at' e1 r1
    exact p.nx _ _ _ H' (q1 D n1) ⟨SRep.set (show ORep X.K H' (some (.ref D)) (some (.ref D)) from by simp [ORep, Rep]) rs2.sl, rs2.hr⟩ (ku _)
end

/-! ### a def that is known -/
structure Kn (P : Program) (w : World) (K : PySem.W.Frag) (mg : Str → Option Value) (base : Heap) (x : Str) (k : Nat) (sp : DSp) : Prop where
  ex : ∃ (a : Addr) (fd : FuncData) (ps : List Str), FnOk P w K mg base CX0 k a fd ps (liftF K sp) ∧ mg x = some (.ref a) ∧ PySem.W.keepIn K (.ref a) = true ∧ Binds K fd ps []
theorem Kn.mono {P : Program} {w : World} {K : PySem.W.Frag} {mg : Str → Option Value} {base : Heap} {x : Str} {j k : Nat} {sp : DSp} (G : Kn P w K mg base x j sp) (h : j ≤ k) : Kn P w K mg base x k sp :=
  let ⟨a, fd, ps, F, b, c, d⟩ := G.ex
  ⟨a, fd, ps, F.mono h, b, c, d⟩
theorem de_kn {X : Cx} {x : Str} {e : Expr} {es : List Expr} {t : DTA} {p pos : Pos} {sp : DSp} {k : Nat} (G : Kn X.prog X.w X.K X.mg X.base x k sp) (hr : Room k X.A) (ha : DA X (e :: es) t) (hg : Gl X x := by rfl)
    (hdb : (x == ("__debug__" : Str)) = false := by decide) (he : starEach (e :: es) X.env = (false, eval e X.env) :: starEach es X.env := by rfl) (hpl : (backTo pos (starEach es X.env)).any (·.1) = false := by rfl) :
    DE X (.Call (.Name x p) (e :: es) [] pos) (dCall sp t) := by
  obtain ⟨a, fd, ps, F, b, c, d⟩ := G.ex
  exact de_call F hr hg b c d ha hdb he hpl
end DL

namespace PySem
open Sem (wp)
section
variable {prog : Program} {w : World} {A : Around} {E : Value → Shared → Prop} {s : Shared} {z TI TO T i1 i2 : Addr} {fp1 fp2 : List Addr} {n1 n2 i : Nat} {P1 P2 : Nat → Value → Prop} {St1 St2 : Nat → Heap → Prop} {f : Bool} {oT : Obj}
/-- next of a zip over any two, its former tuple still held -/
theorem zipDH_item {Q : Option Value → Shared → Prop} (S : ZipSep2 z TI TO i1 i2 fp1 fp2) (D1 : Draws prog w A.in1 i1 fp1 n1 P1 St1) (D2 : Draws prog w A.in1 i2 fp2 n2 P2 St2)
    (hz : IsZipHeld s.heap z TI TO T f) (hT : s.heap.get? T = some oT) (hTI : IsTupOf2 s.heap TI (.ref i1) (.ref i2)) (st1 : St1 i s.heap) (st2 : St2 i s.heap) (l1 : i < n1) (l2 : i < n2)
    (hQ : ∀ x1 x2 h' tk, P1 i x1 → P2 i x2 → IsZipHeld h' z TI TO T true → St1 (i + 1) h' → St2 (i + 1) h' → IsTupOf2 h' s.heap.objs.size x1 x2 →
      (∀ c o, c ≠ z → c ≠ i1 → c ≠ i2 → s.heap.get? c = some o → h'.get? c = some o) → Q (some (.ref s.heap.objs.size)) { s with heap := h', toks := tk }) :
    wpAny (model prog w) A (pyNext (.ref z)) Q E s := by
  have ty : s.TypeIs (.ref z) "zip" := ⟨_, hz, rfl⟩
  unfold pyNext
  refine wpAny_bind (wpAny_attempt (wpAny_callSpecial?_slot (name := Str.ofString "__next__") ty F.slot_zip_next (wpAny_call_entry F.slot_zip_next ty F.entry_zip_next ?_ (F.args_zip_next_1 _))))
  obtain ⟨hp, g, d, tk0, os⟩ := s
  show wpAny _ _ (field (.ref z) 2 >>= fun _ => _) _ _ _
  refine wpAny_bind (wpAny_field hz rfl (x := .bool false) rfl ?_)
  show wpAny _ _ (field (.ref z) 3 >>= fun _ => _) _ _ _
  refine wpAny_bind (wpAny_field hz rfl (x := .ref TI) rfl (wpAny_bind (wpAny_seqItems hTI rfl ?_)))
  show wpAny _ _ (Builtin.SmallTypes.ownedTupleIsFree (.ref z) >>= fun _ => _) _ _ _
  refine wpAny_bind (wpAny_tupleHeld_zip hz hT fun g0 hz0 hs0 => ?_)
  replace hz0 : IsZipHeld g0 z TI TO T true := hz0
  replace hs0 : Heap.SameBut z hp g0 := hs0
  simp only [Bool.false_eq_true, if_false]
  refine wpAny_bind ?_
  rw [← Array.forIn_toList]
  simp only [List.forIn_cons, List.forIn_nil]
  refine wpAny_bind (wpAny_bind (wpAny_holding ?_))
  show wpAny _ _ (Builtin.SmallTypes.nextOf (.ref i1) >>= fun _ => _) _ _ ⟨g0, g, d, tk0, os⟩
  refine wpAny_bind (D1.item i _ _ _ l1 (D1.over st1 hs0 S.zf1) fun x1 p1 tk1 hx1 sn1 hp1 => wpAny_pure ?_)
  replace hp1 : Heap.SameBut i1 g0 p1 := hp1
  refine wpAny_pure (wpAny_bind (wpAny_bind (wpAny_holding ?_)))
  show wpAny _ _ (Builtin.SmallTypes.nextOf (.ref i2) >>= fun _ => _) _ _ ⟨p1, g, d, tk1, os⟩
  refine wpAny_bind (D2.item i _ _ _ l2 (D2.over (D2.over st2 hs0 S.zf2) hp1 S.sep1_2) fun x2 p2 tk2 hx2 sn2 hp2 => wpAny_pure ?_)
  replace hp2 : Heap.SameBut i2 p1 p2 := hp2
  refine wpAny_pure (wpAny_pure ?_)
  show wpAny _ _ (newTuple [x1, x2] >>= fun _ => _) _ _ ⟨p2, g, d, tk2, os⟩
  refine wpAny_bind (wpAny_newTuple ?_)
  have hsz : p2.objs.size = hp.objs.size := by rw [hp2.1, hp1.1, hs0.1]
  have hzz : IsZipHeld p2 z TI TO T true := hp2.extBut _ _ S.zi2 (hp1.extBut _ _ S.zi1 hz0)
  have hk : ∀ c o, c ≠ z → c ≠ i1 → c ≠ i2 → hp.get? c = some o → p2.get? c = some o := fun c o c0 c1 c2 e => hp2.extBut _ _ c2 (hp1.extBut _ _ c1 (hs0.extBut _ _ c0 e))
  have up : ∀ c o, p2.get? c = some o → (p2.push { cls := .type "tuple", data := .seq #[x1, x2] }).get? c = some o := fun c o e => Heap.get?_push_of_some _ e
  have hN : IsTupOf2 (p2.push { cls := .type "tuple", data := .seq #[x1, x2] }) p2.objs.size x1 x2 := Heap.get?_push_size _ rfl
  have fin := hQ x1 x2 (p2.push { cls := .type "tuple", data := .seq #[x1, x2] }) tk2 hx1 hx2 (up _ _ hzz) (D1.frame _ _ _ (D1.over sn1 hp2 S.sep2_1) fun b _ o e => up b o e) (D2.frame _ _ _ sn2 fun b _ o e => up b o e)
    (by rw [hsz] at hN; exact hN) fun c o c0 c1 c2 e => up c o (hk c o c0 c1 c2 e)
  refine wpAny_pure ⟨_, rfl, ?_⟩
  show wpAny _ _ (pure _) _ _ ⟨p2.push { cls := .type "tuple", data := .seq #[x1, x2] }, g, d, tk2, os⟩
  refine wpAny_pure ?_
  rw [hsz]
  exact fin
theorem zipDH_end {Q : Option Value → Shared → Prop} (S : ZipSep2 z TI TO i1 i2 fp1 fp2) (D1 : Draws prog w A.in1 i1 fp1 n1 P1 St1) (D2 : Draws prog w A.in1 i2 fp2 n2 P2 St2)
    (hz : IsZipHeld s.heap z TI TO T f) (hT : s.heap.get? T = some oT) (hTI : IsTupOf2 s.heap TI (.ref i1) (.ref i2)) (st1 : St1 i s.heap) (st2 : St2 i s.heap) (l1 : i ≤ n1) (l2 : i ≤ n2) (hend : i = n1 ∨ i = n2)
    (hQ : ∀ h' tk, (∀ c o, c ≠ z → c ≠ i1 → c ≠ i2 → s.heap.get? c = some o → h'.get? c = some o) → Q none { s with heap := h', toks := tk }) :
    wpAny (model prog w) A (pyNext (.ref z)) Q E s := by
  have ty : s.TypeIs (.ref z) "zip" := ⟨_, hz, rfl⟩
  have fin : ∀ h' tk e, (∀ c o, c ≠ z → c ≠ i1 → c ≠ i2 → s.heap.get? c = some o → h'.get? c = some o) → (∃ o, h'.get? e = some o ∧ o.cls = .type "StopIteration") →
      wpAny (model prog w) A (isInstance (.ref e) (.type "StopIteration") >>= fun b => if b = true then pure none else throw (.ref e)) Q E { s with heap := h', toks := tk } := fun h' tk e hk ⟨o, ho, hc⟩ => by
    refine wpAny_bind (wpAny_isInstance (T := "StopIteration") (b := true) ⟨o, ho, hc⟩ isSubtype_stop ?_)
    exact wpAny_pure (hQ h' tk hk)
  unfold pyNext
  refine wpAny_bind (wpAny_attempt (wpAny_callSpecial?_slot (name := Str.ofString "__next__") ty F.slot_zip_next (wpAny_call_entry F.slot_zip_next ty F.entry_zip_next ?_ (F.args_zip_next_1 _))))
  obtain ⟨hp, g, d, tk0, os⟩ := s
  show wpAny _ _ (field (.ref z) 2 >>= fun _ => _) _ _ _
  refine wpAny_bind (wpAny_field hz rfl (x := .bool false) rfl ?_)
  show wpAny _ _ (field (.ref z) 3 >>= fun _ => _) _ _ _
  refine wpAny_bind (wpAny_field hz rfl (x := .ref TI) rfl (wpAny_bind (wpAny_seqItems hTI rfl ?_)))
  show wpAny _ _ (Builtin.SmallTypes.ownedTupleIsFree (.ref z) >>= fun _ => _) _ _ _
  refine wpAny_bind (wpAny_tupleHeld_zip hz hT fun g0 hz0 hs0 => ?_)
  replace hz0 : IsZipHeld g0 z TI TO T true := hz0
  replace hs0 : Heap.SameBut z hp g0 := hs0
  simp only [Bool.false_eq_true, if_false]
  refine wpAny_bind ?_
  rw [← Array.forIn_toList]
  simp only [List.forIn_cons, List.forIn_nil]
  refine wpAny_bind (wpAny_bind (wpAny_holding ?_))
  show wpAny _ _ (Builtin.SmallTypes.nextOf (.ref i1) >>= fun _ => _) _ _ ⟨g0, g, d, tk0, os⟩
  by_cases hlt : i < n1
  · refine wpAny_bind (D1.item i _ _ _ hlt (D1.over st1 hs0 S.zf1) fun x1 p1 tk1 hx1 sn1 hp1 => wpAny_pure ?_)
    replace hp1 : Heap.SameBut i1 g0 p1 := hp1
    have hi2 : i = n2 := by omega
    refine wpAny_pure (wpAny_bind (wpAny_bind (wpAny_holding ?_)))
    show wpAny _ _ (Builtin.SmallTypes.nextOf (.ref i2) >>= fun _ => _) _ _ ⟨p1, g, d, tk1, os⟩
    refine wpAny_bind (D2.done ⟨p1, g, d, tk1, os⟩ _ _ (by rw [← hi2]; exact D2.over (D2.over st2 hs0 S.zf2) hp1 S.sep1_2) fun q e hq he => ?_)
    exact fin q tk1 e (fun c o c0 c1 c2 x => hq _ _ c2 (hp1.extBut _ _ c1 (hs0.extBut _ _ c0 x))) he
  · have hi1 : i = n1 := by omega
    refine wpAny_bind (D1.done ⟨g0, g, d, tk0, os⟩ _ _ (by rw [← hi1]; exact D1.over st1 hs0 S.zf1) fun q e hq he => ?_)
    exact fin q tk0 e (fun c o c0 c1 _ x => hq _ _ c1 (hs0.extBut _ _ c0 x)) he
end
end PySem

namespace DL
open PySem PySem.Spec L2
open PyProof.Rows hiding St

/-! ### list(zip(a, b)) -/
/-- a zip at its turn i, its former tuple held or not -/
def ZipSt (H : Hp) (t1 t2 : Bool) (a b z TI TO i1 i2 : Addr) (i : Nat) (h : Heap) : Prop :=
  (IsZip h z TI TO .none ∨ ∃ T f u v, IsZipHeld h z TI TO T f ∧ H T = some (.tup [u, v])) ∧ IsTupOf2 h TI (.ref i1) (.ref i2) ∧ (∃ a1 a2, IsTupOf2 h TO a1 a2) ∧ IterAt h t1 i1 a i ∧ IterAt h t2 i2 b i
section
variable {X : Cx} {pins : List (Addr × Obj)} {σ : L2.St} {t1 t2 : Bool} {a b z TI TO i1 i2 : Addr} {xs ys : List V}
theorem sqs_same {K : PySem.W.Frag} {H H' : Hp} {t : Bool} {a : Addr} {xs : List V} (q : SqS K H t a xs) (k : ∀ o, H a = some o → H' a = some o) : SqS K H' t a xs := by
  cases t with
  | true =>
    rcases q with (q | ⟨o, q⟩) | q
    · exact .inl (.inl (k _ q))
    · exact .inl (.inr ⟨o, k _ q⟩)
    · exact .inr q
  | false =>
    rcases q with (q | ⟨o, q⟩) | q
    · exact .inl (.inl (k _ q))
    · exact .inl (.inr ⟨o, k _ q⟩)
    · exact .inr q
theorem FpOk.upd {H : Hp} {c p : Addr} {o : HO} (f : FpOk X pins H c) (n : c ≠ p) : FpOk X pins (upd H p o) c := ⟨by rw [upd_ne n]; exact f.1, f.2⟩
/-- one turn: a new pair -/
theorem zip_turn {A : Around} {E : Value → Shared → Prop} {Q : Option Value → Shared → Prop} {s : Shared} {H : Hp} {i : Nat} {x y : V} (S : ZipSep2 z TI TO i1 i2 [i1, a] [i2, b]) (n1 : a ≠ i1) (n2 : b ≠ i2) (hh : A.in1.handled = none) (I : Inv X pins σ H s)
    (st : ZipSt H t1 t2 a b z TI TO i1 i2 i s.heap) (qx : SqS X.K H t1 a xs) (qy : SqS X.K H t2 b ys) (hx : xs[i]? = some x) (hy : ys[i]? = some y) (hf : ∀ c ∈ [z, TI, TO, i1, i2], FpOk X pins H c)
    (hQ : ∀ T s', H T = none → Inv X pins σ (upd H T (.tup [x, y])) s' → ZipSt (upd H T (.tup [x, y])) t1 t2 a b z TI TO i1 i2 (i + 1) s'.heap → T ∉ [z, TI, TO, i1, i2] → Q (some (.ref T)) s') :
    wpAny (model X.prog X.w) A (pyNext (.ref z)) Q E s := by
  obtain ⟨hz, hTI, ⟨a1, a2, hTO⟩, h1, h2⟩ := id st
  obtain ⟨its, rv, p, _, _⟩ := inv_s I qx
  obtain ⟨its2, rv2, p2, _, _⟩ := inv_s I qy
  obtain ⟨u, hu, ru⟩ := rv.get hx
  obtain ⟨u2, hu2, ru2⟩ := rv2.get hy
  have l1 : i < its.toArray.size := by simpa using (List.getElem?_eq_some_iff.mp hu).1
  have l2 : i < its2.toArray.size := by simpa using (List.getElem?_eq_some_iff.mp hu2).1
  have D1 := draws_s (prog := X.prog) (w := X.w) hh t1 i1 a n1 its.toArray
  have D2 := draws_s (prog := X.prog) (w := X.w) hh t2 i2 b n2 its2.toArray
  have old : ∀ c ∈ [z, TI, TO, i1, i2], c < s.heap.objs.size := fun c hcm => by
    have e' : c = z ∨ c = TI ∨ c = TO ∨ c = i1 ∨ c = i2 := by simpa using hcm
    rcases e' with q | q | q | q | q
    · rw [q]
      rcases hz with hz | ⟨_, _, _, _, hz, _⟩ <;> exact Heap.lt_size hz
    · rw [q]; exact Heap.lt_size hTI
    · rw [q]; exact Heap.lt_size hTO
    · rw [q]; obtain ⟨_, e1, _⟩ := h1.obj; exact Heap.lt_size e1
    · rw [q]; obtain ⟨_, e2, _⟩ := h2.obj; exact Heap.lt_size e2
  have newT : s.heap.objs.size ∉ [z, TI, TO, i1, i2] := fun q => Nat.lt_irrefl _ (old _ q)
  have nH : H s.heap.objs.size = none := I.hok.fresh (Nat.le_refl _)
  have fin : ∀ (v1 v2 : Value) (h' : Heap) (tk : Nat), its.toArray[i]? = some v1 → its2.toArray[i]? = some v2 → (IsZip h' z TI TO .none ∨ ∃ T f u v, IsZipHeld h' z TI TO T f ∧ (upd H s.heap.objs.size (.tup [x, y])) T = some (.tup [u, v])) → IsTupOf2 h' TI (.ref i1) (.ref i2) → (∃ a1 a2, IsTupOf2 h' TO a1 a2) →
      IterAt h' t1 i1 a (i + 1) → IterAt h' t2 i2 b (i + 1) → IsTupOf2 h' s.heap.objs.size v1 v2 → (∀ c o, c ∉ [z, TI, TO, i1, i2] → s.heap.get? c = some o → h'.get? c = some o) → Q (some (.ref s.heap.objs.size)) { s with heap := h', toks := tk } := fun v1 v2 h' tk e1 e2 z' TI' TO' h1' h2' hTT kp => by
    obtain rfl : v1 = u := by simpa [hu] using e1.symm
    obtain rfl : v2 = u2 := by simpa [hu2] using e2.symm
    have new : ObjOk X.prog X.w (upd H s.heap.objs.size (.tup [x, y])) h' s.heap.objs.size (.tup [x, y]) := ⟨by show 2 ≤ sizeLine; decide, [v1, v2], .cons ru (.cons ru2 .nil), ⟨_, hTT, rfl, _, rfl⟩⟩
    exact hQ _ _ nH (I.turnedNew (t' := tk) (ch := [z, TI, TO, i1, i2]) kp hf (Nat.le_refl _) new) ⟨z', TI', TO', h1', h2'⟩ newT
  rcases hz with hz | ⟨T, f, u', v', hz, hT⟩
  · refine wpAny_pyNext_zipD2_item S D1 D2 hz hTI hTO ⟨h1, p⟩ ⟨h2, p2⟩ l1 l2 fun x1 x2 h' tk e1 e2 z' TO' st1 st2 hTT hsz kp => ?_
    refine fin x1 x2 h' tk e1 e2 (.inr ⟨_, false, x, y, z', upd_same⟩) ?_ ⟨_, _, TO'⟩ st1.1 st2.1 hTT fun c o hc e => kp c o (fun q => hc (by simp [q])) (fun q => hc (by simp [q])) (fun q => hc (by simp [q])) (fun q => hc (by simp [q])) e
    exact kp _ _ S.TIz S.TITO S.TIi1 S.TIi2 hTI
  · obtain ⟨_, its3, _, ⟨oT, hoT, _⟩⟩ := I.hok T _ hT
    refine zipDH_item S D1 D2 hz hoT hTI ⟨h1, p⟩ ⟨h2, p2⟩ l1 l2 fun x1 x2 h' tk e1 e2 z' st1 st2 hTT kp => ?_
    have nT : T ≠ s.heap.objs.size := fun q => by rw [q, nH] at hT; cases hT
    refine fin x1 x2 h' tk e1 e2 (.inr ⟨T, true, u', v', z', by rw [upd_ne nT]; exact hT⟩) ?_ ⟨a1, a2, ?_⟩ st1.1 st2.1 hTT fun c o hc e => kp c o (fun q => hc (by simp [q])) (fun q => hc (by simp [q])) (fun q => hc (by simp [q])) e
    · exact kp _ _ S.TIz S.TIi1 S.TIi2 hTI
    · exact kp _ _ S.TOz (fun q => S.Tf1 (by simp [q])) (fun q => S.Tf2 (by simp [q])) hTO
/-- the end -/
theorem zip_done {A : Around} {E : Value → Shared → Prop} {Q : Option Value → Shared → Prop} {s : Shared} {H : Hp} (S : ZipSep2 z TI TO i1 i2 [i1, a] [i2, b]) (n1 : a ≠ i1) (n2 : b ≠ i2) (hh : A.in1.handled = none) (I : Inv X pins σ H s)
    (st : ZipSt H t1 t2 a b z TI TO i1 i2 (min xs.length ys.length) s.heap) (qx : SqS X.K H t1 a xs) (qy : SqS X.K H t2 b ys) (hf : ∀ c ∈ [z, TI, TO, i1, i2], FpOk X pins H c)
    (hQ : ∀ s', Inv X pins σ H s' → Q none s') : wpAny (model X.prog X.w) A (pyNext (.ref z)) Q E s := by
  obtain ⟨hz, hTI, ⟨a1, a2, hTO⟩, h1, h2⟩ := id st
  obtain ⟨its, rv, p, _, _⟩ := inv_s I qx
  obtain ⟨its2, rv2, p2, _, _⟩ := inv_s I qy
  have e1 := rv.length
  have e2 := rv2.length
  have D1 := draws_s (prog := X.prog) (w := X.w) hh t1 i1 a n1 its.toArray
  have D2 := draws_s (prog := X.prog) (w := X.w) hh t2 i2 b n2 its2.toArray
  have s1 : its.toArray.size = xs.length := by simp [e1]
  have s2 : its2.toArray.size = ys.length := by simp [e2]
  have fin : ∀ (h' : Heap) (tk : Nat), (∀ c o, c ∉ [z, TI, TO, i1, i2] → s.heap.get? c = some o → h'.get? c = some o) → Q none { s with heap := h', toks := tk } := fun h' tk kp => hQ _ (I.turnedL (t' := tk) (ch := [z, TI, TO, i1, i2]) kp hf)
  rcases hz with hz | ⟨T, f, u', v', hz, hT⟩
  · exact wpAny_pyNext_zipD2_end S D1 D2 hz hTI hTO ⟨h1, p⟩ ⟨h2, p2⟩ (by omega) (by omega) (by omega) fun h' tk kp => fin h' tk fun c o hc e => kp c o (fun q => hc (by simp [q])) (fun q => hc (by simp [q])) (fun q => hc (by simp [q])) (fun q => hc (by simp [q])) e
  · obtain ⟨_, its3, _, ⟨oT, hoT, _⟩⟩ := I.hok T _ hT
    exact zipDH_end S D1 D2 hz hoT hTI ⟨h1, p⟩ ⟨h2, p2⟩ (by omega) (by omega) (by omega) fun h' tk kp => fin h' tk fun c o hc e => kp c o (fun q => hc (by simp [q])) (fun q => hc (by simp [q])) (fun q => hc (by simp [q])) e
/-- what the list holds behind n turns -/
def Pairs (H : Hp) (xs ys vs : List V) (n : Nat) : Prop := vs.length = n ∧ ∀ j x y, j < n → xs[j]? = some x → ys[j]? = some y → ∃ T, vs[j]? = some (.ref T) ∧ H T = some (.tup [x, y])
theorem zip_loop {B : Around} {R : Result → Shared → Prop} {L : Addr} {res : Value} {H0 : Hp} (S : ZipSep2 z TI TO i1 i2 [i1, a] [i2, b]) (n1 : a ≠ i1) (n2 : b ≠ i2) (hh : B.in1.in1.handled = none) (hL : L ∉ [z, TI, TO, i1, i2]) (aL : ∀ o, H0 a = some o → a ≠ L) (bL : ∀ o, H0 b = some o → b ≠ L)
    (qx : SqS X.K H0 t1 a xs) (qy : SqS X.K H0 t2 b ys) (hz : min xs.length ys.length ≤ sizeLine)
    (hR : ∀ H s' vs, Inv X pins σ H s' → H L = some (.lst vs) → Pairs H xs ys vs (min xs.length ys.length) → (∀ c o, H0 c = some o → c ≠ L → H c = some o) → R (.ok (.ret res)) s') :
    ∀ (k i : Nat) (s : Shared) (H : Hp) (vs : List V), min xs.length ys.length - i = k → i ≤ min xs.length ys.length → Inv X pins σ H s → ZipSt H t1 t2 a b z TI TO i1 i2 i s.heap → H L = some (.lst vs) → Pairs H xs ys vs i → (∀ c o, H0 c = some o → c ≠ L → H c = some o) →
      (∀ c ∈ [z, TI, TO, i1, i2], FpOk X pins H c) → codeAny (model X.prog X.w) B (.builtin "list.extend.loop" ⟨[.ref L, .ref z, res], []⟩) R s := by
  intro k
  induction k with
  | zero =>
    intro i s H vs hk hi I st hH hP same hf
    obtain rfl : i = min xs.length ys.length := by omega
    refine codeAny_builtin F.entry_extend_loop ?_
    rw [Around.under_plainId F.plain_extend_loop _]
    show wpAny _ B.in1 (pyNext (.ref z) >>= fun _ => _) _ _ s
    refine wpAny_bind (zip_done S n1 n2 hh I st (sqs_same qx fun o e => same a o e (aL o e)) (sqs_same qy fun o e => same b o e (bL o e)) hf fun s' I' => ?_)
    exact wpAny_pure (hR H s' vs I' hH hP same)
  | succ k ih =>
    intro i s H vs hk hi I st hH hP same hf
    have hlt : i < min xs.length ys.length := by omega
    have lx : i < xs.length := by omega
    have ly : i < ys.length := by omega
    refine codeAny_builtin F.entry_extend_loop ?_
    rw [Around.under_plainId F.plain_extend_loop _]
    show wpAny _ B.in1 (pyNext (.ref z) >>= fun _ => _) _ _ s
    refine wpAny_bind (zip_turn (x := xs[i]) (y := ys[i]) S n1 n2 hh I st (sqs_same qx fun o e => same a o e (aL o e)) (sqs_same qy fun o e => same b o e (bL o e)) (by simp [lx]) (by simp [ly]) hf fun T s' nT I' st' hT => ?_)
    have LT : L ≠ T := fun q => by rw [← q, hH] at nT; cases nT
    have hH' : (upd H T (.tup [xs[i], ys[i]])) L = some (.lst vs) := by rw [upd_ne LT]; exact hH
    obtain ⟨zl, its, nn, rv, el, hS⟩ := I'.lstM hH'
    have vl : vs.length = i := hP.1
    show wpAny _ B.in1 (updateSeq L (·.push (.ref T)) >>= fun _ => _) _ _ _
    refine wpAny_bind ?_
    have oth : ∀ c o, c ≠ L → s'.heap.get? c = some o → (s'.heap.update L (Obj.mapSeq (·.push (.ref T)))).get? c = some o := fun c o hc e => (Heap.get?_update_other _ _ (Ne.symm hc)).trans e
    have self := Heap.get?_update_self (Obj.mapSeq (·.push (Value.ref T))) hS rfl
    have I2 : Inv X pins σ (upd (upd H T (.tup [xs[i], ys[i]])) L (.lst (vs ++ [.ref T]))) { s' with heap := s'.heap.update L (Obj.mapSeq (·.push (.ref T))) } :=
      I'.write (t' := s'.toks) (by rw [hH']; trivial) (.inl rfl) (fun c o hc e => oth c o hc e) ⟨_, self⟩ ⟨by simp; omega, its ++ [.ref T], _, rv.append (.cons (show RelV (.ref T) (Value.ref T) from rfl) .nil), by rw [self]; simp [Obj.mapSeq]; rfl⟩
    refine wpAny_updateSeq hS rfl (wpAny_pure ⟨plainId_quiet F.plain_extend_loop _, ih (i + 1) _ _ (vs ++ [.ref T]) (by omega) hlt I2 ?_ upd_same ?_ ?_ ?_⟩) (by rw [List.size_toArray]; omega) (by show ((its.toArray.push (Value.ref T)).size) ≤ sizeLine + 1; rw [Array.size_push, List.size_toArray]; omega)
    · obtain ⟨s1, s2, ⟨a1, a2, s3⟩, s4, s5⟩ := st'
      have nc : ∀ c ∈ [z, TI, TO, i1, i2], c ≠ L := fun c hc q => hL (by rw [← q]; exact hc)
      refine ⟨?_, oth _ _ (nc TI (by simp)) s2, ⟨a1, a2, oth _ _ (nc TO (by simp)) s3⟩, s4.at' fun o e => oth _ _ (nc i1 (by simp)) e, s5.at' fun o e => oth _ _ (nc i2 (by simp)) e⟩
      rcases s1 with s1 | ⟨T', f, u, v, s1, hT'⟩
      · exact .inl (oth _ _ (nc z (by simp)) s1)
      · refine .inr ⟨T', f, u, v, oth _ _ (nc z (by simp)) s1, ?_⟩
        rw [upd_ne (ne_of hT' hH' (by intro q; cases q))]
        exact hT'
    · refine ⟨by simp [vl], fun j x y hj ex ey => ?_⟩
      by_cases e : j = i
      · subst e
        refine ⟨T, by simp [← vl], ?_⟩
        rw [upd_ne (Ne.symm LT), upd_same]
        rw [show xs[j] = x by simpa [lx] using ex, show ys[j] = y by simpa [ly] using ey]
      · obtain ⟨T', e1, e2⟩ := hP.2 j x y (by omega) ex ey
        refine ⟨T', by rw [List.getElem?_append_left (by omega)]; exact e1, ?_⟩
        have nTT : T' ≠ T := fun q => by rw [q, nT] at e2; cases e2
        rw [upd_ne (ne_of e2 hH (by intro q; cases q)), upd_ne nTT]
        exact e2
    · intro c o e hc
      have e2 := same c o e hc
      rw [upd_ne hc, upd_ne (fun q => by rw [q, nT] at e2; cases e2)]
      exact e2
    · intro c hc
      exact DL.FpOk.upd (DL.FpOk.upd (hf c hc) (fun q => hT (by rw [← q]; exact hc))) (fun q => hL (by rw [← q]; exact hc))
theorem zip_no_len : typeLookup (.type "zip") "__len__" = pure none := am_miss_of_fast (by decide +kernel)
theorem zip_no_hint : typeLookup (.type "zip") "__length_hint__" = pure none := am_miss_of_fast (by decide +kernel)
theorem seqobj {h : Heap} {L : Addr} {f : Array Value → Array Value} {ar : Array Value} {n : Nat} (e : h.get? L = some { cls := .type "list", data := .seq ar n }) : ∃ m, (h.update L (Obj.mapSeq f)).get? L = some { cls := .type "list", data := .seq (f ar) m } := by
  rw [Heap.get?_update_self (Obj.mapSeq f) e rfl]
  exact ⟨_, rfl⟩
/-- list(z) of a zip that has just been made -/
theorem call_list_zip {A : Around} {E : Value → Shared → Prop} {Q : Value → Shared → Prop} {s : Shared} {H : Hp} (S : ZipSep2 z TI TO i1 i2 [i1, a] [i2, b]) (n1 : a ≠ i1) (n2 : b ≠ i2) (hh : A.handled = none) (I : Inv X pins σ H s)
    (zn : IsZip s.heap z TI TO .none) (st : ZipSt H t1 t2 a b z TI TO i1 i2 0 s.heap) (qx : SqS X.K H t1 a xs) (qy : SqS X.K H t2 b ys) (hz : min xs.length ys.length ≤ sizeLine) (hf : ∀ c ∈ [z, TI, TO, i1, i2], FpOk X pins H c)
    (hR : ∀ H' s' L vs, Inv X pins σ H' s' → H L = none → H' L = some (.lst vs) → Pairs H' xs ys vs (min xs.length ys.length) → (∀ c o, H c = some o → H' c = some o) → Q (.ref L) s') :
    wpAny (model X.prog X.w) A (call (.type "list") [.ref z]) Q E s := by
  obtain ⟨hp, g, d, tk, os⟩ := s
  have zty : ∀ h' : Heap, (∀ c o, hp.get? c = some o → h'.get? c = some o) → Shared.TypeIs ⟨h', g, d, tk, os⟩ (.ref z) "zip" := fun h' k => by
    rcases st.1 with q | ⟨_, _, _, _, q, _⟩ <;> exact ⟨_, k _ _ q, rfl⟩
  refine callType_codes (Q₁ := fun obj s₁ => obj = .ref hp.objs.size ∧ s₁ = ⟨hp.push { cls := .type "list", data := .seq #[] }, g, d, tk, os⟩) F.called_list (F.typeCall_list_1 _) F.entry_list_init (code_list_new _ ⟨rfl, rfl⟩) fun obj s₁ h₁ => ?_
  obtain ⟨rfl, rfl⟩ := h₁
  have k0 : ∀ c o, hp.get? c = some o → (hp.push { cls := .type "list", data := .seq #[] }).get? c = some o := fun c o e => Heap.get?_push_of_some _ e
  have hS : (hp.push { cls := .type "list", data := .seq #[] }).get? hp.objs.size = some { cls := .type "list", data := .seq #[] } := Heap.get?_push_size _ rfl
  refine ⟨⟨_, hS, rfl⟩, F.args_list_init_2 _ _, ?_⟩
  have nL : H hp.objs.size = none := I.hok.fresh (Nat.le_refl _)
  have lt : ∀ c ∈ [z, TI, TO, i1, i2], c < hp.objs.size := fun c hc => by
    obtain ⟨q1, q2, ⟨_, _, q3⟩, q4, q5⟩ := id st
    have e' : c = z ∨ c = TI ∨ c = TO ∨ c = i1 ∨ c = i2 := by simpa using hc
    rcases e' with q | q | q | q | q
    · rw [q]
      rcases q1 with q1 | ⟨_, _, _, _, q1, _⟩ <;> exact Heap.lt_size q1
    · rw [q]; exact Heap.lt_size q2
    · rw [q]; exact Heap.lt_size q3
    · rw [q]; obtain ⟨_, e1, _⟩ := q4.obj; exact Heap.lt_size e1
    · rw [q]; obtain ⟨_, e2, _⟩ := q5.obj; exact Heap.lt_size e2
  have nz : hp.objs.size ∉ [z, TI, TO, i1, i2] := fun q => Nat.lt_irrefl _ (lt _ q)
  -- the empty list is emptied, stretched, and shrunk
  show wpAny _ A.in1.in1 (do let old ← Builtin.List.listItems (.ref hp.objs.size); Builtin.List.listUpdate (.ref hp.objs.size) (fun _ => #[]); letGo old.toList.reverse; Builtin.List.listExtendWith (.ref hp.objs.size) (.ref z) .none) _ _ _
  refine wpAny_bind ?_
  unfold Builtin.List.listItems
  refine wpAny_bind (wpAny_seqItems hS rfl (wpAny_pure ?_))
  show wpAny _ A.in1.in1 (updateSeq hp.objs.size (fun _ => #[]) >>= fun _ => letGo (#[] : Array Value).toList.reverse >>= fun _ => Builtin.List.listExtendWith (.ref hp.objs.size) (.ref z) .none) _ _ _
  refine wpAny_bind (wpAny_updateSeq hS rfl (wpAny_bind (wpAny_letGo ?_)))
  obtain ⟨m1, hS1⟩ := seqobj (f := fun _ => (#[] : Array Value)) hS
  generalize hh1 : (hp.push { cls := .type "list", data := .seq #[] }).update hp.objs.size (Obj.mapSeq fun _ => (#[] : Array Value)) = g1 at hS1 ⊢
  have k1 : ∀ c o, hp.get? c = some o → g1.get? c = some o := fun c o e => by
    rw [← hh1]; exact (Heap.get?_update_other _ _ (Nat.ne_of_gt (Heap.lt_size e))).trans (k0 c o e)
  unfold Builtin.List.listExtendWith
  refine wpAny_bind (wpAny_typeOf (zty g1 k1) ?_)
  have z1 : Builtin.List.listSameRef (.ref hp.objs.size) (.ref z) = false := by
    have q : hp.objs.size ≠ z := fun q => nz (by simp [q])
    simp [Builtin.List.listSameRef, q]
  have z2 : (Value.type "zip" == Value.type "list") = false := by decide
  have z3 : (Value.type "zip" == Value.type "tuple") = false := by decide
  simp only [z1, z2, z3, Bool.or_false, Bool.false_eq_true, if_false]
  refine wpAny_bind (wpAny_pyIter_zip (k1 _ _ zn) ?_)
  refine wpAny_bind (wpAny_holding ?_)
  unfold Builtin.List.listLengthHint
  refine wpAny_bind (wpAny_specialOf (zty g1 k1) zip_no_len ?_)
  show wpAny _ A.in1.in1 (specialOf (Value.ref z) (Str.ofString "__length_hint__") >>= fun _ => _) _ _ _
  refine wpAny_bind (wpAny_specialOf (zty g1 k1) zip_no_hint (wpAny_pure ?_))
  show wpAny _ A.in1.in1 (rule "list.extend.makes-room" >>= fun _ => Builtin.List.listTouch (.ref hp.objs.size) >>= fun _ => again (.builtin "list.extend.loop" ⟨[.ref hp.objs.size, .ref z, .none], []⟩)) _ _ _
  refine wpAny_bind (wpAny_rule (wpAny_bind ?_))
  show wpAny _ A.in1.in1 (updateSeq hp.objs.size (·.push .none) >>= fun _ => updateSeq hp.objs.size (·.pop)) _ _ _
  refine wpAny_bind (wpAny_updateSeq hS1 rfl ?_)
  obtain ⟨m2, hS2⟩ := seqobj (f := fun a => a.push Value.none) hS1
  generalize hh2 : g1.update hp.objs.size (Obj.mapSeq fun a => a.push Value.none) = g2 at hS2 ⊢
  have k2 : ∀ c o, hp.get? c = some o → g2.get? c = some o := fun c o e => by
    rw [← hh2]; exact (Heap.get?_update_other _ _ (Nat.ne_of_gt (Heap.lt_size e))).trans (k1 c o e)
  refine wpAny_updateSeq (hz := by seq_fits) hS2 rfl (wpAny_pure ⟨plainId_quiet F.plain_extend_loop _, ?_⟩)
  obtain ⟨m3, hS3⟩ := seqobj (f := fun a => a.pop) hS2
  generalize hh3 : g2.update hp.objs.size (Obj.mapSeq fun a => a.pop) = g3 at hS3 ⊢
  have k3 : ∀ c o, hp.get? c = some o → g3.get? c = some o := fun c o e => by
    rw [← hh3]; exact (Heap.get?_update_other _ _ (Nat.ne_of_gt (Heap.lt_size e))).trans (k2 c o e)
  have I3 : Inv X pins σ (upd H hp.objs.size (.lst [])) ⟨g3, g, d, tk, os⟩ := I.laid (t' := tk) k3 (Nat.le_refl _) ⟨Nat.zero_le _, [], m3, .nil, hS3⟩
  have up : ∀ c o, H c = some o → (upd H hp.objs.size (.lst [])) c = some o := fun c o e => by rw [upd_ne (ne_of_none e nL)]; exact e
  have hseq : ∀ {t : Bool} {c : Addr} {us : List V}, SqS X.K H t c us → SqS X.K (upd H hp.objs.size (.lst [])) t c us := fun q => sqs_same q fun o e => up _ o e
  refine zip_loop (X := X) (pins := pins) (σ := σ) (B := A.in1) (H0 := upd H hp.objs.size (.lst [])) S n1 n2 (show A.in1.in1.in1.handled = none from hh) nz ?_ ?_ (hseq qx) (hseq qy) hz (fun H' s' vs I' hL hP same => ?_) _ 0 _ _ [] rfl (Nat.zero_le _) I3 ?_ upd_same ⟨rfl, fun j x y hj => absurd hj (Nat.not_lt_zero _)⟩ (fun c o e _ => e) fun c hc => DL.FpOk.upd (hf c hc) (fun q => nz (by rw [← q]; exact hc))
  · rintro o e rfl
    obtain ⟨_, _, _, _, q⟩ := inv_s I qx
    exact Nat.lt_irrefl _ q
  · rintro o e rfl
    obtain ⟨_, _, _, _, q⟩ := inv_s I qy
    exact Nat.lt_irrefl _ q
  · exact ⟨rfl, hR H' s' hp.objs.size vs I' nL hL hP fun c o e => same c o (up c o e) (ne_of_none e nL)⟩
  · obtain ⟨q1, q2, ⟨a1, a2, q3⟩, q4, q5⟩ := id st
    refine ⟨?_, k3 _ _ q2, ⟨a1, a2, k3 _ _ q3⟩, q4.at' fun o e => k3 _ _ e, q5.at' fun o e => k3 _ _ e⟩
    rcases q1 with q | ⟨T, f, u, v, q, r⟩
    · exact .inl (k3 _ _ q)
    · exact .inr ⟨T, f, u, v, k3 _ _ q, up _ _ r⟩
end
end DL

namespace DL
open PySem PySem.Spec L2
open PyProof.Rows hiding St

def tListZip (K : PySem.W.Frag) (ta : TA) : TE := fun σ H Q => ta σ H fun vs H1 => ∃ a b t1 t2 xs ys, vs = [.ref a, .ref b] ∧ SqS K H1 t1 a xs ∧ SqS K H1 t2 b ys ∧
  ∀ (H' : Hp) (L : Addr) (us : List V), (∀ c o, H1 c = some o → H' c = some o) → H1 L = none → H' L = some (.lst us) → Pairs H' xs ys us (min xs.length ys.length) → Q (.ref L) H'
theorem pe_listZip {X : Cx} {e e2 : Expr} {ta : TA} {p pz posz pos : Pos} (hgl : Gl X "list") (hml : X.mg "list" = none) (hg : Gl X "zip") (hm : X.mg "zip" = none) (hc : X.calm = true) (ha : PA X [e, e2] ta)
    (hs : starEach [e, e2] X.env = (false, eval e X.env) :: starEach [e2] X.env := by rfl) (hpl : (backTo posz (starEach [e2] X.env)).any (·.1) = false := by rfl)
    (hs2 : starEach [.Call (.Name "zip" pz) [e, e2] [] posz] X.env = (false, eval (.Call (.Name "zip" pz) [e, e2] [] posz) X.env) :: starEach [] X.env := by rfl) :
    PE X (.Call (.Name "list" p) [.Call (.Name "zip" pz) [e, e2] [] posz] [] pos) (tListZip X.K ta) := by
  refine ⟨fun pins s σ H Q I h => ?_⟩
  refine wpAny_Call_Name_kw (ld_blt I hgl hml PyProof.Rows.boot_list ?_)
  refine PyProof.Rows.callWith_type1 ?_ hs2 rfl
  rw [hs2]
  show wpAny _ _ (spliced ((false, eval (.Call (.Name "zip" pz) [e, e2] [] posz) X.env) :: [])) _ _ s
  refine Calls.spliced_cons (Call_ (ld_blt I hg hm PyProof.Rows.boot_zip (PyProof.Rows.callWith_type1 (thn (ha.run posz pins s σ H _ I h) fun us s1 ⟨vs, H1, I1, r1, q1⟩ => ?_) hs hpl)))
  obtain ⟨a, b, t1, t2, xs, ys, ex, hqx, hqy, q⟩ := q1
  subst ex
  obtain ⟨its, rv, p1, zx, la⟩ := inv_s I1 hqx
  obtain ⟨its2, rv2, p2, _, lb⟩ := inv_s I1 hqy
  cases r1 with
  | cons r rr =>
    cases rr with
    | cons r' rr =>
      cases rr
      cases r
      cases r'
      refine zip_begins2 (begins_s t1 a its.toArray) (begins_s t2 b its2.toArray) p1 p2 fun h' hz hTI hTO h1 h2 hsz hk => Calls.spliced_nil ?_
      have I2 : Inv X pins σ H1 { s1 with heap := h' } := I1.kept (t' := s1.toks) hk
      have fresh : ∀ c ∈ [s1.heap.objs.size + 4, s1.heap.objs.size + 2, s1.heap.objs.size + 3, s1.heap.objs.size, s1.heap.objs.size + 1], FpOk X pins H1 c := fun c hcm => by
        have e' : c = s1.heap.objs.size + 4 ∨ c = s1.heap.objs.size + 2 ∨ c = s1.heap.objs.size + 3 ∨ c = s1.heap.objs.size ∨ c = s1.heap.objs.size + 1 := by simpa using hcm
        have hle : s1.heap.objs.size ≤ c := by
          rcases e' with z | z | z | z | z
          · rw [z]; exact Nat.le_add_right _ _
          · rw [z]; exact Nat.le_add_right _ _
          · rw [z]; exact Nat.le_add_right _ _
          · rw [z]; exact Nat.le_refl _
          · rw [z]; exact Nat.le_add_right _ _
        exact I1.fpOk hle (I1.hok.fresh hle)
      refine call_list_zip (X := X) (pins := pins) (σ := σ) (t1 := t1) (t2 := t2) (zip_sep2 (fp1 := [a]) (fp2 := [b]) (by simpa using la) (by simpa using lb)) (Nat.ne_of_lt la) (Nat.ne_of_lt (Nat.lt_succ_of_lt lb)) (I2.ok.hd hc) I2 hz
        ⟨.inl hz, hTI, ⟨_, _, hTO⟩, iterAt_mk h1, iterAt_mk h2⟩ hqx hqy (Nat.le_trans (Nat.min_le_left _ _) zx) fresh fun H' s' L us I' nL hL hP same => ?_
      exact ⟨.ref L, H', I', rfl, q H' L us same nL hL hP⟩
theorem reps_of_get {K : PySem.W.Frag} {H : Hp} : ∀ {ds : List D} {vs : List V}, ds.length = vs.length → (∀ (j : Nat) (d : D), ds[j]? = some d → ∃ v, vs[j]? = some v ∧ Rep K H d v) → Reps K H ds vs
  | [], vs, l, _ => by
    have e : vs = [] := List.eq_nil_of_length_eq_zero l.symm
    subst e; simp [Reps]
  | d :: ds, [], l, _ => by simp at l
  | d :: ds, v :: vs, l, f => by
    unfold Reps
    obtain ⟨w, e, r⟩ := f 0 d (by simp)
    simp at e; subst e
    exact ⟨v, vs, rfl, r, reps_of_get (by simpa using l) fun j d' e => by
      obtain ⟨u, e2, r2⟩ := f (j + 1) d' (by simpa using e)
      exact ⟨u, by simpa using e2, r2⟩⟩
theorem zipD_at : ∀ {xs ys : List D} {i : Nat} {d : D}, (zipD xs ys)[i]? = some d → ∃ x y, xs[i]? = some x ∧ ys[i]? = some y ∧ d = .tup [x, y]
  | [], _, _, _, e => by simp [zipD] at e
  | _ :: _, [], _, _, e => by simp [zipD] at e
  | x :: xs, y :: ys, 0, d, e => by simp [zipD] at e; exact ⟨x, y, by simp, by simp, e.symm⟩
  | x :: xs, y :: ys, i + 1, d, e => by
    obtain ⟨x', y', e1, e2, e3⟩ := zipD_at (i := i) (by simpa [zipD] using e)
    exact ⟨x', y', by simpa using e1, by simpa using e2, e3⟩
def dListZip (ta : DTA) : DTE := fun σ h Q => ta σ h fun ds h1 => match ds with
  | [d, e] => match itemsD h1 d, itemsD h1 e with
    | some xs, some ys => ∀ p, h1 p = none → Q (.ref p) (updD h1 p (.lst (zipD xs ys)))
    | _, _ => False
  | _ => False
theorem sqs_of {K : PySem.W.Frag} {H : Hp} {a : Addr} {vs : List V} (s : SqL K H a vs ∨ SqT K H a vs) : ∃ t, SqS K H t a vs := by
  rcases s with s | s
  · exact ⟨false, s⟩
  · exact ⟨true, s⟩
theorem de_listZip {X : Cx} {e e2 : Expr} {ta : DTA} {p pz posz pos : Pos} (hgl : Gl X "list") (hml : X.mg "list" = none) (hg : Gl X "zip") (hm : X.mg "zip" = none) (hc : X.calm = true) (ha : DA X [e, e2] ta)
    (hs : starEach [e, e2] X.env = (false, eval e X.env) :: starEach [e2] X.env := by rfl) (hpl : (backTo posz (starEach [e2] X.env)).any (·.1) = false := by rfl)
    (hs2 : starEach [.Call (.Name "zip" pz) [e, e2] [] posz] X.env = (false, eval (.Call (.Name "zip" pz) [e, e2] [] posz) X.env) :: starEach [] X.env := by rfl) :
    DE X (.Call (.Name "list" p) [.Call (.Name "zip" pz) [e, e2] [] posz] [] pos) (dListZip ta) :=
  (pe_listZip hgl hml hg hm hc ha hs hpl hs2).imp fun σ H Q ⟨σD, h, QD, rs, q, p⟩ => by
    refine ⟨σD, h, _, rs, q, fun ds h1 vs H1 q1 rs1 r1 k1 => ?_⟩
    split at q1
    · rename_i d e
      split at q1
      · rename_i xs ys e1 e2
        obtain ⟨v, w, rfl, rv, rw⟩ := reps_two r1
        obtain ⟨a, vx, rfl, s1, rx⟩ := items_of rs1.hr e1 rv
        obtain ⟨b, vy, rfl, s2, ry⟩ := items_of rs1.hr e2 rw
        obtain ⟨t1, s1⟩ := sqs_of s1
        obtain ⟨t2, s2⟩ := sqs_of s2
        refine ⟨a, b, t1, t2, vx, vy, rfl, s1, s2, fun H' L us same nL hL hP => ?_⟩
        have tm : TupMono H1 H' := same_tup same
        have lx := rx.len
        have ly := ry.len
        have rz : Reps X.K H' (zipD xs ys) us := reps_of_get (by rw [zipD_len, hP.1, lx, ly]) fun j d e => by
          obtain ⟨x, y, ex, ey, rfl⟩ := zipD_at e
          obtain ⟨x', hx', rx'⟩ := rx.get ex
          obtain ⟨y', hy', ry'⟩ := ry.get ey
          have jx := (List.getElem?_eq_some_iff.mp hx').1
          have jy := (List.getElem?_eq_some_iff.mp hy').1
          obtain ⟨T, eT, hT⟩ := hP.2 j x' y' (by omega) hx' hy'
          refine ⟨.ref T, eT, ?_⟩
          unfold Rep
          refine ⟨T, [x', y'], rfl, .inl (.inl hT), ?_⟩
          unfold Reps
          refine ⟨x', [y'], rfl, rx'.mono tm, ?_⟩
          unfold Reps
          exact ⟨y', [], rfl, ry'.mono tm, by simp [Reps]⟩
        refine p _ _ _ H' (q1 L (rs1.hr.none nL)) ⟨rs1.sl.mono tm, fun c o z => ?_⟩ (by simp [Rep]) (k1.trans fun c o z n => ⟨same c o z, ?_⟩)
        · by_cases ec : c = L
          · subst ec
            rw [updD_same] at z; cases z
            exact ⟨_, hL, rz⟩
          · rw [updD_ne ec] at z
            obtain ⟨u, hu, wq⟩ := rs1.hr c o z
            exact ⟨u, same c u hu, wq.mono tm⟩
        · rw [updD_ne (by rintro rfl; rw [nL] at z; cases z)]
          exact n
      · exact q1.elim
    · exact q1.elim

/-! ### names of what is built in -/
theorem bt_len : bootBuiltins "len" = some (.builtin "len") := by decide +kernel
theorem bt_abs : bootBuiltins "abs" = some (.builtin "abs") := by decide +kernel
theorem bt_sum : bootBuiltins "sum" = some (.builtin "sum") := by decide +kernel
theorem bt_min : bootBuiltins "min" = some (.builtin "min") := by decide +kernel
theorem bt_max : bootBuiltins "max" = some (.builtin "max") := by decide +kernel
theorem bt_isinstance : bootBuiltins "isinstance" = some (.builtin "isinstance") := by decide +kernel
theorem bt_repr : bootBuiltins "repr" = some (.builtin "repr") := by decide +kernel
theorem bt_sorted : bootBuiltins "sorted" = some (.builtin "sorted") := by decide +kernel
theorem bt_int : bootBuiltins "int" = some (.type "int") := by decide +kernel
theorem bt_tuple : bootBuiltins "tuple" = some (.type "tuple") := by decide +kernel
theorem bt_list : bootBuiltins "list" = some (.type "list") := by decide +kernel
theorem bt_bool : bootBuiltins "bool" = some (.type "bool") := by decide +kernel
theorem bt_str : bootBuiltins "str" = some (.type "str") := by decide +kernel
theorem bt_dict : bootBuiltins "dict" = some (.type "dict") := by decide +kernel
theorem bt_set : bootBuiltins "set" = some (.type "set") := by decide +kernel

/-! ### module's constants -/
section
variable {X : Cx} {x : Str} {pos : Pos}
theorem de_gint {i : Int} (hg : Gl X x) (hm : ∃ t, X.mg x = some (.int i t)) (hd : (x == ("__debug__" : Str)) = false := by decide) : DE X (.Name x pos) (dC (.int i)) := by
  obtain ⟨t, hm⟩ := hm
  exact de_glob (v := .int i) hg hm ⟨t, rfl⟩ (fun _ => by simp [Rep]) hd
theorem de_gstr {i : Str} (hg : Gl X x) (hm : ∃ t, X.mg x = some (.str i t)) (hd : (x == ("__debug__" : Str)) = false := by decide) : DE X (.Name x pos) (dC (.str i)) := by
  obtain ⟨t, hm⟩ := hm
  exact de_glob (v := .str i) hg hm ⟨t, rfl⟩ (fun _ => by simp [Rep]) hd
end

/-! ### more operators -/
/-- a floor by any positive divisor below 2 ^ 64 -/
def rDivW : DR2 := rII (fun _ j => 0 < j ∧ j < 18446744073709551616) fun i j => i / j
theorem ad_divW {K : PySem.W.Frag} : Ad2 K rDivW (rI CDivW fun i j => .int (i / j)) := ad_ii (fun _ j c => by
  refine ⟨c.1, ?_⟩
  have e : j.natAbs < 2 ^ 64 := natAbs_lt (by omega) c.2
  by_cases z : j.natAbs = 0
  · rw [z]; decide
  · have := (Nat.log2_lt z).mpr e
    omega) fun i j c => rfl
def rIpAdd : DR2 := rII (fun _ _ => True) fun i j => i + j
def rIpSub : DR2 := rII (fun _ _ => True) fun i j => i - j
theorem ad_ipadd {K : PySem.W.Frag} : Ad2 K rIpAdd (ipI fun i j => i + j) := ad_ii0 (g := fun i j => V.int (i + j)) fun _ _ => rfl
theorem ad_ipsub {K : PySem.W.Frag} : Ad2 K rIpSub (ipI fun i j => i - j) := ad_ii0 (g := fun i j => V.int (i - j)) fun _ _ => rfl
theorem ad_notN {K : PySem.W.Frag} : Ad2 K rNotN (fun x y H Q => y = .non ∧ Q (.bl (!decide (x = .non))) H) := by
  intro σD σ h H dx dy x y QD Q rs rx ry q p
  unfold rNotN at q
  split at q
  · refine ⟨by simpa [Rep] using ry, ?_⟩
    split at q
    · rw [decide_eq_true ((rep_non_iff rx).mpr rfl)]
      exact p _ h _ H q rs (by simp [Rep]) .refl
    · rename_i n
      rw [decide_eq_false (fun z => n ((rep_non_iff rx).mp z))]
      exact p _ h _ H q rs (by simp [Rep]) .refl
  · exact q.elim
end DL

namespace DL
open PySem PySem.Spec L2
open PyProof.Rows hiding St

/-! ### two comparisons in a chain -/
def dChain (r r' : DR2) (ta tb tc : DTE) : DTE := fun σ h Q => ta σ h fun x h1 => tb σ h1 fun y h2 => r x y h2 fun z h3 => match z with
  | .bl k => if k = true then tc σ h3 fun w h4 => r' y w h4 Q else Q (.bl false) h3
  | _ => False
theorem le_chain {K : PySem.W.Frag} {rd rd' : DR2} {r r' : R2} (ad : Ad2 K rd r) (ad' : Ad2 K rd' r') {ta tb tc : DTE} (σ : St) (H : Hp) (Q : VK) (q : LE K (dChain rd rd' ta tb tc) σ H Q) : tChain r r' (LE K ta) (LE K tb) (LE K tc) σ H Q := by
  obtain ⟨σD, h, QD, rs, q, p⟩ := q
  refine ⟨σD, h, _, rs, q, fun d1 h1 v1 H1 q1 rs1 r1 k1 => ⟨σD, h1, _, rs1, q1, fun d2 h2 v2 H2 q2 rs2 r2 k2 => ?_⟩⟩
  refine ad σD σ h2 H2 d1 d2 v1 v2 _ _ rs2 (r1.mono (k2.tup rs1.hr)) r2 q2 fun d3 h3 v3 H3 q3 rs3 r3 k3 => ?_
  cases d3 with
  | bl c =>
    obtain rfl := rep_bl r3
    refine ⟨c, rfl, ?_⟩
    have k13 := k1.trans (k2.trans k3)
    cases c with
    | true =>
      rw [if_pos rfl]
      exact ⟨σD, h3, _, rs3, q3, fun d4 h4 v4 H4 q4 rs4 r4 k4 => ad' σD σ h4 H4 d2 d4 v2 v4 QD Q rs4 (r2.mono ((k3.trans k4).tup rs2.hr)) r4 q4 (p.after (k13.trans k4))⟩
    | false =>
      rw [if_neg Bool.false_ne_true]
      exact p _ h3 _ H3 q3 rs3 (by simp [Rep]) k13
  | _ => exact q3.elim
section
variable {X : Cx} {a b c : Expr} {ta tb tc : DTE} {op op' : CmpOp} {r r' : R2} {rd rd' : DR2} {pos : Pos}
theorem de_chain (ho : OpR X (compareOp op) r) (ad : Ad2 X.K rd r) (ho' : OpR X (compareOp op') r') (ad' : Ad2 X.K rd' r') (ha : DE X a ta) (hb : DE X b tb) (hc : DE X c tc)
    (hm : lastMarks [op, op'] [b, c] = false := by with_unfolding_all rfl) : DE X (.Compare a [op, op'] [b, c] pos) (dChain rd rd' ta tb tc) := (pe_chain ho ho' ha hb hc hm).imp (le_chain ad ad')
theorem dt_chain (ho : OpR X (compareOp op) r) (ad : Ad2 X.K rd r) (ho' : OpR X (compareOp op') r') (ad' : Ad2 X.K rd' r') (ha : DE X a ta) (hb : DE X b tb) (hc : DE X c tc)
    (hm : lastMarks [op, op'] [b, c] = false := by with_unfolding_all rfl) : DT X (.Compare a [op, op'] [b, c] pos) (dTest (dChain rd rd' ta tb tc)) := (pt_chain ho ho' ha hb hc hm).imp fun σ H Q ⟨σD, h, QD, rs, q, p⟩ => by
  refine le_chain ad ad' σ H _ ⟨σD, h, _, rs, q, fun d1 h1 v1 H1 q1 rs1 r1 k1 => ?_⟩
  cases d1 with
  | bl c =>
    obtain rfl := rep_bl r1
    exact ⟨c, rfl, p c h1 H1 q1 rs1 k1⟩
  | _ => exact q1.elim
end

/-! ### items stored -/
def rSetD (o i v : D) (h : DH) (Q : DH → Prop) : Prop := match o, i with
  | .ref a, .int k => match h a with
    | some (.lst ds) => match ixN ds.length k with
      | some j => Q (updD h a (.lst (ds.set j v)))
      | none => False
    | _ => False
  | _, _ => False
theorem ad_set {K : PySem.W.Frag} {σD : DS} {σ : St} {h : DH} {H : Hp} {o i v : D} {ov iv vv : V} {QD : DH → Prop} {Q : Hp → Prop} (rs : RS K σD h σ H) (ro : Rep K H o ov) (ri : Rep K H i iv) (rv : Rep K H v vv) (q : rSetD o i v h QD)
    (p : ∀ h' H', QD h' → RS K σD h' σ H' → Keep h H h' H' → Q H') : rSetL ov iv vv H Q := by
  unfold rSetD at q
  split at q
  · rename_i a k
    split at q
    · rename_i ds e
      split at q
      · rename_i j e2
        obtain rfl := rep_ref ro
        obtain rfl := rep_int ri
        obtain ⟨vs, hv, r⟩ := rs.hr.lst e
        rw [r.len] at e2
        exact ⟨a, vs, k, j, rfl, rfl, hv, e2, p _ _ q (rs.put e (o := .lst (ds.set j v)) (u := .lst (vs.set j vv)) (r.set rv j)) (.put e)⟩
      · exact q.elim
    · exact q.elim
  · exact q.elim
def dgSub (to ti : DTE) : DTG := fun v σ h Q => to σ h fun o h1 => ti σ h1 fun i h2 => rSetD o i v h2 fun h3 => Q σ h3
section
variable {X : Cx} {o i e : Expr} {to ti te : DTE} {pos tpos : Pos}
theorem dg_sub (hp : PG X (.Subscript o i pos) (gSub (LE X.K to) (LE X.K ti) rSetL)) : DG X (.Subscript o i pos) [] (dgSub to ti) := hp.imp fun v σ H Q ⟨d, σD, h, QD, rs, r, q, p⟩ => by
  refine ⟨σD, h, _, rs, q, fun d1 h1 v1 H1 q1 rs1 r1 k1 => ⟨σD, h1, _, rs1, q1, fun d2 h2 v2 H2 q2 rs2 r2 k2 => ?_⟩⟩
  have k12 := k1.trans k2
  exact ad_set rs2 (r1.mono (k2.tup rs1.hr)) r2 (r.mono (k12.tup rs.hr)) q2 fun h3 H3 q3 rs3 k3 => p σD h3 σ H3 q3 rs3 (k12.trans k3) (.refl _ _)
/-- xs[i] as it is read ahead of an op= -/
def rGetL (K : PySem.W.Frag) : V → V → Hp → VK → Prop := fun x y H Q => ∃ a xs i v, x = .ref a ∧ y = .int i ∧ SqL K H a xs ∧ 0 ≤ i ∧ xs[i.toNat]? = some v ∧ Q v H
theorem get_list : PGet X (rGetL X.K) := by
  intro pins s σ H o i ov iv Q I ro ri ⟨a, xs, k, v, e1, e2, hq, h0, hx, q⟩
  subst e1; subst e2
  cases ro
  obtain ⟨t, rfl⟩ := ri
  obtain ⟨its, r, pl, hz⟩ := I.list hq
  obtain ⟨u, hu, ru⟩ := r.get hx
  have l := (List.getElem?_eq_some_iff.mp hx).1
  have n63 := line63
  exact wpAny_getItem_list pl.isList h0 (by omega) (by simpa using hu) ⟨v, H, I, ru, q⟩
def rGetD (x y : D) (h : DH) (Q : DK) : Prop := match x, y with
  | .ref a, .int i => match h a with
    | some (.lst ds) => match ds[i.toNat]? with
      | some d => 0 ≤ i ∧ Q d h
      | none => False
    | _ => False
  | _, _ => False
theorem ad_get {K : PySem.W.Frag} : Ad2 K rGetD (rGetL K) := by
  intro σD σ h H dx dy x y QD Q rs rx ry q p
  unfold rGetD at q
  split at q
  · rename_i a i
    split at q
    · rename_i ds e
      split at q
      · rename_i d e2
        obtain ⟨h0, q⟩ := q
        obtain rfl := rep_ref rx
        obtain rfl := rep_int ry
        obtain ⟨vs, s, r⟩ := rs.hr.sql e
        obtain ⟨v, hv, rv⟩ := r.get e2
        exact ⟨a, vs, i, v, rfl, rfl, s, h0, hv, p d h v H q rs rv .refl⟩
      · exact q.elim
    · exact q.elim
  · exact q.elim
def dAugI (r : DR2) (to ti te : DTE) : DTS := fun D σ h => to σ h fun o h1 => ti σ h1 fun i h2 => rGetD o i h2 fun x h3 => te σ h3 fun y h4 => r x y h4 fun z h5 => rSetD o i z h5 fun h6 => D.nx σ h6
theorem ds_augI {op : Operator} {tip : TIp} {rd : DR2} (hp : PIp X op tip) (ad : Ad2 X.K rd tip) (ho : DE X o to) (hi : DE X i ti) (he : DE X e te) (ha : ∀ ov iv new, augStore i ov iv new = (do holding [new, ov, iv] (setItem ov iv new); release [new, ov, iv] []; pure .next) := by intros; rfl) :
    DSt X (.AugAssign (.Subscript o i tpos) op e pos) (dAugI rd to ti te) := (ps_augS ho hi get_list he hp set_list ha).imp fun Ds σ H ⟨σD, h, DD, rs, q, p⟩ => by
  refine ⟨σD, h, _, rs, q, fun d1 h1 v1 H1 q1 rs1 r1 k1 => ⟨σD, h1, _, rs1, q1, fun d2 h2 v2 H2 q2 rs2 r2 k2 => ?_⟩⟩
  refine ad_get σD σ h2 H2 d1 d2 v1 v2 _ _ rs2 (r1.mono (k2.tup rs1.hr)) r2 q2 fun d3 h3 v3 H3 q3 rs3 r3 k3 => ⟨σD, h3, _, rs3, q3, fun d4 h4 v4 H4 q4 rs4 r4 k4 => ?_⟩
  refine ad σD σ h4 H4 d3 d4 v3 v4 _ _ rs4 (r3.mono (k4.tup rs3.hr)) r4 q4 fun d5 h5 v5 H5 q5 rs5 r5 k5 => ?_
  have k25 := k3.trans (k4.trans k5)
  exact ad_set rs5 (r1.mono ((k2.trans k25).tup rs1.hr)) (r2.mono (k25.tup rs2.hr)) r5 q5 fun h6 H6 q6 rs6 k6 => p.nx σD h6 σ H6 q6 rs6 (k1.trans (k2.trans (k25.trans k6)))
end

/-! ### repr, where no repr is under way -/
def rRepr : List D → DH → DK → Prop := fun xs h Q => match xs with
  | [d] => match pyD h 12 d with
    | some p => isDisplay p = true ∧ p.showable = true ∧ p.hasDict = false ∧ p.depth ≤ 60 ∧ p.shown.length ≤ sizeLine ∧ Q (.str p.shown) h
    | none => False
  | _ => False
def rReprV (K : PySem.W.Frag) : List V → Hp → VK → Prop := fun xs H Q => ∃ v p, xs = [v] ∧ Dp K H v p ∧ isDisplay p = true ∧ p.showable = true ∧ p.hasDict = false ∧ p.depth ≤ 60 ∧ p.shown.length ≤ sizeLine ∧ Q (.str p.shown) H
theorem call_reprG {X : Cx} {k : Nat} (hr : Room k X.A) (hg : X.A.guards = some []) : CallR X (.builtin "repr") (rReprV X.K) := by
  intro pins s σ H xs us Q I r ⟨v, p, e, dp, h1, h2, h3, h4, h5, q⟩
  subst e
  obtain ⟨u, rfl, ru⟩ := vals1 r
  obtain ⟨as, rd⟩ := Dp.reads I p v u dp ru
  obtain ⟨a, rfl⟩ := isRef_of_reads rd h1
  have hu := hr.units
  exact repr_of_reads' rd h2 (PyData.noDict_hsm h3) hg (by omega) (fun _ _ e => e) (fun h' u tk hk => ⟨.str p.shown, H, I.kept (t' := tk) hk, ⟨_, rfl⟩, q⟩) h5
theorem ad_repr {K : PySem.W.Frag} : AdA K rRepr (rReprV K) := by
  intro σD σ h H dx x QD Q rs rx q p
  unfold rRepr at q
  split at q
  · rename_i d
    split at q
    · rename_i y e
      obtain ⟨h1, h2, h3, h4, h5, q⟩ := q
      obtain ⟨v, rfl, rv⟩ := reps_one rx
      exact ⟨v, y, rfl, pyD_dp rs.hr _ _ _ _ e rv, h1, h2, h3, h4, h5, p _ h _ H q rs (by simp [Rep]) .refl⟩
    · exact q.elim
  · exact q.elim
end DL

namespace DL
open PySem PySem.Spec L2
open PyProof.Rows hiding St

/-! ### the law itself, called where nothing is under way -/
theorem code_of {P : Program} {w : World} {K : PySem.W.Frag} {mg : Str → Option Value} {base : Heap} {k : Nat} {x qual : Str} {st : Stmt} {f : Addr} {fd : FuncData} {N ps : List Str} {A : Around} {outer : List Env} {s : Shared} {H : Hp} {args : Args} {us : List Value} {vs : List V} {Q : VK} {E : XK} {t : TS}
    (F : Fun K x qual st f fd) (S : FnScope N ps (defScope st)) (hl : vs.length = ps.length) (hr : Room (k + 1) A) (e0 : Env0 P w K mg base A outer s H) (hb : BindsTo s fd args (ps.zip us)) (r : Vals vs us)
    (ht : ∀ cdv, Room k (A.deeper (envOfC qual (defScope st) s.heap.objs.size f cdv)) → PSs (cxOf CX0 P w K mg base N qual (defScope st) f cdv A outer s H E).nox (defBody st) t) (hq : t { nx := fun _ H' => Q .non H', rt := Q } (L2.start N vs) H) :
    codeAny (model P w) A (.call (.ref f) args) (CR CX0 outer P w H s Q E) s := by
  obtain ⟨oc, od, kV, doc, pm, an, cdv, ct, osl, rfl, lk, hcd⟩ := F.ex
  have kin : K.In s.heap := e0.mod.kin.keeps fun b o e => (e0.bs b o e).1
  have nolim : s.heap.NoLimit := e0.mod.nolimit.keeps fun b o e => (e0.bs b o e).1
  have kinds : ∀ y ∈ ps.zip us, (defScope st).names.lookup y.1 = some .local ∨ ((defScope st).names.lookup y.1 = some .cell ∧ ((cellsFrom (s.heap.objs.size + 1) (defScope st).names []).lookup y.1).isSome = true) := by
    rintro ⟨n, v⟩ hy
    have hp := S.par n (List.of_mem_zip hy).1
    exact hp.imp id fun q => ⟨q, PySem.W.cellsFrom_some _ _ _ (.inl q)⟩
  refine codeAny_call_function hr.depth (kin _ _ lk) rfl S.co S.gen rfl (PySem.W.codeRec_of kin hcd) (hb _ _ _ _ (wpAny_newFunctionEnv_cells S.kind kinds fun env he s1 hx => ?_))
  subst he
  refine ⟨nolim.keeps hx.toInCall.keep, codeAny_func ?_⟩
  have body := ht cdv (hr.deeper _)
  have start := inv_start (CX := CX0) (E := E) S hr.hd e0 hl r hx
  refine wpAny_mono (body.nox.run [] s1 (L2.start N vs) H { nx := fun _ H' => Q .non H', rt := Q } start hq) (fun fl s' hs => ?_) fun e s' hs => hs
  cases fl with
  | ret u =>
    obtain ⟨v, σ', H', J, rv, q⟩ := hs
    exact ⟨v, H', J.os, J.bare, J.base, J.hok, rv, q⟩
  | next =>
    obtain ⟨σ', H', J, q⟩ := hs
    exact ⟨V.non, H', J.os, J.bare, J.base, J.hok, rfl, q⟩
  | brk =>
    obtain ⟨_, _, _, q⟩ := hs
    exact False.elim q
  | cont =>
    obtain ⟨_, _, _, q⟩ := hs
    exact False.elim q
/-- a law's promise, at its own call alone -/
def LawOk (P : Program) (w : World) (K : PySem.W.Frag) (mg : Str → Option Value) (base : Heap) (f : Addr) (fd : FuncData) (ps : List Str) (sp : DSp) : Prop :=
  ∀ (s : Shared) (H : Hp) (args : Args) (us : List Value) (vs : List V) (Q : VK) (E : XK), Env0 P w K mg base callerA [] s H → BindsTo s fd args (ps.zip us) → Vals vs us → liftF K sp vs H Q E →
    codeAny (model P w) callerA (.call (.ref f) args) (CR CX0 [] P w H s Q E) s
theorem fnG {P : Program} {w : World} {K : PySem.W.Frag} {mg : Str → Option Value} {base : Heap} {k : Nat} {x qual : Str} {st : Stmt} {f : Addr} {fd : FuncData} {N ps : List Str} {sp : DSp} {t : DTS}
    (F : Fun K x qual st f fd) (S : FnScope N ps (defScope st)) (hk : Room (k + 1) callerA) (len : ∀ ds h Q, sp ds h Q → ds.length = ps.length)
    (term : ∀ (cdv : Value) (A : Around) (outer : List Env) (s : Shared) (H : Hp) (E : XK), Room k (A.deeper (envOfC qual (defScope st) s.heap.objs.size f cdv)) → (A.deeper (envOfC qual (defScope st) s.heap.objs.size f cdv)).guards = some [] → DSs (cxOf CX0 P w K mg base N qual (defScope st) f cdv A outer s H E).nox (defBody st) t)
    (pure : ∀ ds h Q, sp ds h Q → t (endD Q) (startD N ds) h) : LawOk P w K mg base f fd ps sp := by
  rintro s H args us vs Q E e0 hb r ⟨ds, h, QD, rr, hR, q, post⟩
  refine code_of (t := LS K t) F S (by rw [← rr.len]; exact len _ _ _ q) hk e0 hb r (fun cdv hr => term cdv callerA [] s H E hr rfl) ?_
  exact ⟨startD N ds, h, endD QD, start_rep rr hR, pure ds h QD q, end_post post⟩
/-- the promise of a law: the script as a list that stands, nothing told beside it, and True -/
def spLaw0 : DSp := fun ds h Q => ∃ ns : List Int, ds = [.rol (ns.map D.int)] ∧ ns.length ≤ 63 ∧ h = (fun _ => none) ∧ ∀ h', Q (.bl true) h'
theorem only_sqr {K : PySem.W.Frag} {H : Hp} {a : Addr} {xs : List V} (hO : Only H) (q : SqL K H a xs) : SqR K H a xs := by
  rcases q with (q | q) | q
  · rcases hO a with z | ⟨_, _, z⟩ <;> (rw [q] at z; cases z)
  · exact .inl q
  · exact .inr (.inr q)
theorem law_run {P : Program} {w : World} {K : PySem.W.Frag} {mg mb : Str → Option Value} {fa a : Addr} {fd : FuncData} {x : Str} {s₁ : Shared} {vs : List Value} {ns : List Int}
    (kin : K.In s₁.heap) (gl : s₁.heap.Ns mainGlobals mg) (bl : s₁.heap.Ns builtinsNs mb) (bv : ∀ x : Str, x ≠ "__name__" → mb x = bootBuiltins x) (nolim : s₁.heap.NoLimit) (gens : s₁.gens = #[])
    (at' : s₁.heap.get? a = some { cls := .type "list", data := .seq vs.toArray }) (hi : IntsAre vs ns) (hn : ns.length ≤ 63)
    (F : ∀ base : Heap, K.In base → base.Ns mainGlobals mg → LawOk P w K mg base fa fd [x] spLaw0) (bind : ∀ (s : Shared) (u : Value), BindsTo s fd ⟨[u], []⟩ [(x, u)]) :
    codeAny (model P w) callerA (.call (.ref fa) ⟨[.ref a], []⟩) (fun r s' => r = .ok (.ret (.bool true)) ∧ OldK s₁.heap s'.heap ∧ s'.os = s₁.os ∧ AllBare s'.gens) s₁ := by
  have rv : Vals (ns.map V.int) vs := vals_ints hi
  have lenV := hi.length
  have l63 : ns.length ≤ sizeLine := Nat.le_trans hn (by decide)
  have go : ∀ H : Hp, Only H → SqL K H a (ns.map V.int) → HOk P w H s₁.heap → (∀ b, H b ≠ none → b = a) → (H a ≠ none → K.lookup a = none) →
      codeAny (model P w) callerA (.call (.ref fa) ⟨[.ref a], []⟩) (fun r s' => r = .ok (.ret (.bool true)) ∧ OldK s₁.heap s'.heap ∧ s'.os = s₁.os ∧ AllBare s'.gens) s₁ := by
    intro H hO hS hok onlyA freeK
    have ns_at : ∀ {b : Addr} {m : Str → Option Value}, s₁.heap.Ns b m → (hidT s₁.heap H).Ns b m := by
      rintro b m ⟨o, es, ep, e, dt, r⟩
      refine ⟨o, es, ep, hidT_get e ?_, dt, r⟩
      cases q : H b with
      | none => rfl
      | some u =>
        obtain rfl : b = a := onlyA b (by rw [q]; simp)
        rw [at'] at e; cases e; cases dt
    have kb : K.In (hidT s₁.heap H) := fun b o e => hidT_get (kin b o e) (by
      cases q : H b with
      | none => rfl
      | some u =>
        obtain rfl : b = a := onlyA b (by rw [q]; simp)
        rw [freeK (by rw [q]; simp)] at e; cases e)
    obtain ⟨mc, c1, c2⟩ := nolim
    have md : Mod K mg (hidT s₁.heap H) := ⟨kb, ns_at gl, ⟨mb, ns_at bl, bv⟩, ⟨mc, ns_at c1, c2⟩⟩
    have e0 : Env0 P w K mg (hidT s₁.heap H) callerA [] s₁ H :=
      ⟨rfl, md, fun b o e => of_hidT e, Nat.le_of_eq (hidT_size _ _), trivial, fun b hb => absurd (show b ∈ ([] : List Addr) from hb) (by simp), hok, .of_eq gens⟩
    have lift : liftF K spLaw0 [.ref a] H (fun v _ => v = .bl true) (fun _ _ _ => False) :=
      ⟨[.rol (ns.map D.int)], fun _ => none, fun d _ => d = .bl true, by unfold Reps; exact ⟨_, _, rfl, by unfold Rep; exact ⟨a, _, rfl, only_sqr hO hS, ints_reps ns⟩, by simp [Reps]⟩, fun _ _ e => (by cases e), ⟨ns, rfl, hn, rfl, fun _ => rfl⟩,
        fun d h' v H' e _ r _ => (by subst e; exact rep_bl r)⟩
    refine codeAny_mono (F _ kb (ns_at gl) s₁ H ⟨[.ref a], []⟩ [.ref a] [.ref a] (fun v _ => v = .bl true) (fun _ _ _ => False) e0 (bind s₁ (.ref a)) (.cons rfl .nil) lift) fun r s' q => ?_
    cases r with
    | error e => exact q.elim
    | ok fl =>
      cases fl with
      | next => exact q.elim
      | brk => exact q.elim
      | cont => exact q.elim
      | ret u =>
        obtain ⟨v, H', os, bare, un, hok', rr, e⟩ := q
        have e' : v = .bl true := e
        subst e'
        obtain rfl : u = Value.bool true := rr
        refine ⟨rfl, OldK.of_keep fun b o e => ?_, os, bare⟩
        cases q : H b with
        | none => exact un.keep b o e q (fun z => absurd (show b ∈ ([] : List Addr) from z) (by simp)) (by simp)
        | some u =>
          rcases hO b with z | ⟨ob, ys, z⟩
          · rw [q] at z; cases z
          · obtain ⟨e1, _⟩ := hok b _ z
            obtain ⟨e2, _⟩ := hok' b _ (un.frzs b ob _ z)
            rw [e] at e1; cases e1
            exact e2
  cases hk : K.lookup a with
  | some o =>
    have e := kin a o hk
    rw [at'] at e
    cases e
    exact go (fun _ => none) (fun _ => .inl rfl) (.inr ⟨_, vs.toArray, _, hk, rfl, rfl, rfl, by rw [List.size_toArray, lenV]; exact l63, by simpa using rv⟩) (fun b u z => (by cases z)) (fun b z => absurd rfl z) fun z => absurd rfl z
  | none =>
    have off : ∀ b, b ≠ a → (fun b => if b = a then some (HO.frz { cls := .type "list", data := .seq vs.toArray } (.lst (ns.map V.int))) else none) b = none := fun b hb => if_neg hb
    refine go (fun b => if b = a then some (.frz { cls := .type "list", data := .seq vs.toArray } (.lst (ns.map V.int))) else none) (fun b => ?_) (.inl (.inr ⟨_, if_pos rfl⟩)) (fun b u z => ?_) (fun b z => ?_) fun _ => hk
    · by_cases hb : b = a
      · exact .inr ⟨_, _, if_pos hb⟩
      · exact .inl (off b hb)
    · by_cases hb : b = a
      · cases (if_pos hb).symm.trans z
        subst hb
        exact ⟨at', by rw [List.length_map]; exact l63, vs, _, rv, at'⟩
      · cases (off b hb).symm.trans z
    · by_cases hb : b = a
      · exact hb
      · exact absurd (off b hb) z
/-- THE END of a row: what k_head leaves -/
theorem law_walk {l : PySem.W.OpenLaw} {q : Program} {loose : List Str} {XP : (Str → Option Value) → Heap → Prop} {YP : World → Heap → Prop} {d : DefRec} {K : Params → PySem.W.Frag} {x : Str}
    (hn : l.most = some 63) (hdf : d.params.defaults = []) (hY : ∀ (w : World) (h : Heap), YP w h → (K w.params).In h)
    (F : ∀ (w : World) (mg : Str → Option Value) (fa : Addr) (h : Heap), (K w.params).In h → h.Ns mainGlobals mg → mg d.name = some (.ref fa) →
      ∃ fd : FuncData, (∀ (s : Shared) (u : Value), BindsTo s fd ⟨[u], []⟩ [(x, u)]) ∧ ∀ base : Heap, (K w.params).In base → base.Ns mainGlobals mg → LawOk l.prog w (K w.params) mg base fa fd [x] spLaw0) :
    PySem.W.WalkO q loose XP YP l.row.toRowW d [] (fun f vs => PySem.call f vs) := by
  refine Att.attach_call hn hdf fun w s₀ s₁ mg mb fa o pm cd doc a vs ns G Y ho hd hcd hmg hobj hints hlen hg => ?_
  obtain ⟨fd, hb, hF⟩ := F w mg fa _ (hY w _ Y) G.T.g hmg
  exact law_run (hY w _ Y) G.T.g G.T.b G.T.builtins G.T.nolimit hg hobj hints hlen hF hb
end DL

namespace DL
open PySem PySem.Spec L2
open PyProof.Rows hiding St

/-! ### readings at values: equations -/
section
variable {h : DH} {Q : DK}
theorem rII_int (C : Int → Int → Prop) (f : Int → Int → Int) (i j : Int) : rII C f (.int i) (.int j) h Q = (C i j ∧ Q (.int (f i j)) h) := rfl
theorem rIB_int (f : Int → Int → Bool) (i j : Int) : rIB f (.int i) (.int j) h Q = Q (.bl (f i j)) h := rfl
theorem rAdd_int (i j : Int) : rAddD (.int i) (.int j) h Q = Q (.int (i + j)) h := rfl
theorem rSub_int (i j : Int) : rSubD (.int i) (.int j) h Q = Q (.int (i - j)) h := by show (True ∧ _) = _; rw [true_and]
theorem rMul_int (i j : Int) : rMulD (.int i) (.int j) h Q = (mulC i j ∧ Q (.int (i * j)) h) := rfl
theorem rMod_int (i j : Int) : rModD (.int i) (.int j) h Q = (0 < j ∧ Q (.int (i % j)) h) := rfl
theorem rDiv_int (i j : Int) : rDivD (.int i) (.int j) h Q = ((0 < j ∧ j < 1073741824) ∧ Q (.int (i / j)) h) := rfl
theorem rDivW_int (i j : Int) : rDivW (.int i) (.int j) h Q = ((0 < j ∧ j < 18446744073709551616) ∧ Q (.int (i / j)) h) := rfl
theorem rShr_int (i j : Int) : rShrD (.int i) (.int j) h Q = (0 ≤ j ∧ Q (.int (i / 2 ^ j.toNat)) h) := rfl
theorem rShl_int (i j : Int) : rShlD (.int i) (.int j) h Q = ((0 ≤ j ∧ j ≤ 1000000 ∧ -18446744073709551616 < i ∧ i < 18446744073709551616) ∧ Q (.int (i * 2 ^ j.toNat)) h) := rfl
theorem rPow_int (i j : Int) : rPowD (.int i) (.int j) h Q = ((0 ≤ j ∧ j ≤ 1000000 ∧ -18446744073709551616 < i ∧ i < 18446744073709551616) ∧ Q (.int (i ^ j.toNat)) h) := rfl
theorem rIpAdd_int (i j : Int) : rIpAdd (.int i) (.int j) h Q = Q (.int (i + j)) h := by show (True ∧ _) = _; rw [true_and]
theorem rIpSub_int (i j : Int) : rIpSub (.int i) (.int j) h Q = Q (.int (i - j)) h := by show (True ∧ _) = _; rw [true_and]
theorem rAnd1_int (i : Int) : rAndM (.int i) (.int 1) h Q = Q (.int (i % 2)) h := by
  apply propext
  constructor
  · rintro ⟨k, e, q⟩
    have e2 : (2 : Int) ^ k = 2 := by omega
    rw [e2] at q
    exact q
  · intro q
    exact ⟨1, by decide, q⟩
theorem rNeg_int (i : Int) : rNegD (.int i) h Q = Q (.int (-i)) h := rfl
theorem rInt_int (i : Int) : rInt [.int i] h Q = Q (.int i) h := rfl
theorem rAbs_int (i : Int) : rAbs [.int i] h Q = Q (.int (if i < 0 then -i else i)) h := rfl
theorem rLen_tup (ds : List D) : rLen [.tup ds] h Q = Q (.int ds.length) h := rfl
theorem rAdd_tup (a b : List D) : rAddD (.tup a) (.tup b) h Q = (a.length + b.length ≤ sizeLine ∧ Q (.tup (a ++ b)) h) := rfl
theorem rTupleOf_tup (a : List D) : rTupleOf [.tup a] h Q = Q (.tup a) h := rfl
theorem rListOf_tup (a : List D) : rListOf [.tup a] h Q = ∀ p, h p = none → Q (.ref p) (updD h p (.lst a)) := rfl
theorem rMax2_int (i j : Int) : rMax2 [.int i, .int j] h Q = Q (.int (if j > i then j else i)) h := rfl
theorem rMin2_int (i j : Int) : rMin2 [.int i, .int j] h Q = Q (.int (if j < i then j else i)) h := rfl
theorem rSl_tup (ds : List D) (lo hi : Option Int) : rSl (.tup ds) lo hi h Q = Q (.tup (cutG ds lo hi)) h := rfl
theorem rSl_rol (ds : List D) (lo hi : Option Int) : rSl (.rol ds) lo hi h Q = ∀ p, h p = none → Q (.ref p) (updD h p (.lst (cutG ds lo hi))) := rfl
/-! ### readings at addresses: what gives them -/
variable {a b : Addr} {ds es : List D}
theorem len_ref (e : h a = some (.lst ds)) (q : Q (.int ds.length) h) : rLen [.ref a] h Q := by simpa [rLen, itemsD, e] using q
theorem sum_ref {ns : List Int} (e : h a = some (.lst (ns.map D.int))) (q : Q (.int ns.sum) h) : rSumD [.ref a] h Q := by simpa [rSumD, itemsD, e, intsD_of] using q
theorem tupleOf_ref (e : h a = some (.lst ds)) (q : Q (.tup ds) h) : rTupleOf [.ref a] h Q := by simpa [rTupleOf, itemsD, e] using q
theorem listOf_ref (e : h a = some (.lst ds)) (q : ∀ p, h p = none → Q (.ref p) (updD h p (.lst ds))) : rListOf [.ref a] h Q := by simpa [rListOf, itemsD, e] using q
theorem ix_ref {i : Int} {d : D} (e : h a = some (.lst ds)) (h0 : 0 ≤ i) (hd : ds[i.toNat]? = some d) (q : Q d h) : rIx (.ref a) (.int i) h Q := by
  have l := (List.getElem?_eq_some_iff.mp hd).1
  have e2 : atI ds i = some d := by
    unfold atI ixN
    simp [h0]
    rw [if_pos (by omega)]
    simpa using hd
  simpa [rIx, itemsD, e, e2] using q
theorem ix_tup {i : Int} {d : D} (h0 : 0 ≤ i) (hd : ds[i.toNat]? = some d) (q : Q d h) : rIx (.tup ds) (.int i) h Q := by
  have l := (List.getElem?_eq_some_iff.mp hd).1
  have e2 : atI ds i = some d := by
    unfold atI ixN
    simp [h0]
    rw [if_pos (by omega)]
    simpa using hd
  simpa [rIx, itemsD, e2] using q
theorem sl_ref {lo hi : Option Int} (e : h a = some (.lst ds)) (q : ∀ p, h p = none → Q (.ref p) (updD h p (.lst (cutG ds lo hi)))) : rSl (.ref a) lo hi h Q := by simpa [rSl, e] using q
theorem app_ref {y : D} (e : h a = some (.lst ds)) (l : ds.length < sizeLine) (q : Q .non (updD h a (.lst (ds ++ [y])))) : isLst h (.ref a) ∧ rAppendD (.ref a) [y] h Q := ⟨⟨ds, e⟩, by simpa [rAppendD, e] using ⟨l, q⟩⟩
theorem append_ref {y : D} (e : h a = some (.lst ds)) (l : ds.length < sizeLine) (q : Q .non (updD h a (.lst (ds ++ [y])))) : rAppendD (.ref a) [y] h Q := by simpa [rAppendD, e] using ⟨l, q⟩
theorem extend_ref (e : h a = some (.lst ds)) (e2 : h b = some (.lst es)) (l : ds.length + es.length ≤ sizeLine) (q : Q .non (updD h a (.lst (ds ++ es)))) : rExtendD (.ref a) [.ref b] h Q := by simpa [rExtendD, e, e2] using ⟨l, q⟩
theorem cat_ref (e : h a = some (.lst ds)) (e2 : h b = some (.lst es)) (l : ds.length + es.length ≤ sizeLine) (q : ∀ p, h p = none → Q (.ref p) (updD h p (.lst (ds ++ es)))) : rAddD (.ref a) (.ref b) h Q := by simpa [rAddD, e, e2] using ⟨l, q⟩
theorem set_ref {k : Int} {v : D} {R : DH → Prop} (e : h a = some (.lst ds)) (h0 : 0 ≤ k) (hk : k.toNat < ds.length) (q : R (updD h a (.lst (ds.set k.toNat v)))) : rSetD (.ref a) (.int k) v h R := by
  have e2 : ixN ds.length k = some k.toNat := by
    unfold ixN
    simp [h0]
    omega
  simpa [rSetD, e, e2] using q
theorem get_ref {i : Int} {d : D} (e : h a = some (.lst ds)) (h0 : 0 ≤ i) (hd : ds[i.toNat]? = some d) (q : Q d h) : rGetD (.ref a) (.int i) h Q := by simpa [rGetD, e, hd] using ⟨h0, q⟩
end
theorem isLst_ref {h : DH} {a : Addr} {ds : List D} (e : h a = some (.lst ds)) : isLst h (.ref a) := ⟨ds, e⟩

/-! ### what is walked -/
section
variable {σ : DS} {h h1 : DH} {R : List D → (DH → Prop) → DH → Prop} {i : Nat} {a : Addr} {ds : List D}
theorem seq_lst {te : DTE} (t : ∀ Q : DK, Q (.ref a) h1 → te σ h Q) (e : h1 a = some (.lst ds)) (r : R ds (fun h' => h' a = some (.lst ds)) h1) : dSeqI te σ h R := t _ (by simpa [srcD, e] using r)
theorem seq_tup {te : DTE} (t : ∀ Q : DK, Q (.tup ds) h1 → te σ h Q) (r : R ds (fun _ => True) h1) : dSeqI te σ h R := t _ r
theorem seqV_lst (hv : σ[i]? = some (some (.ref a))) (e : h a = some (.lst ds)) (r : R ds (fun h' => h' a = some (.lst ds)) h) : dSeqI (dVar i) σ h R := seq_lst (fun Q q => by simpa [dVar, hv] using q) e r
theorem seqV_tup (hv : σ[i]? = some (some (.tup ds))) (r : R ds (fun _ => True) h) : dSeqI (dVar i) σ h R := seq_tup (fun Q q => by simpa [dVar, hv] using q) r
end
/-- a for: what is walked, and what holds ahead of each turn -/
theorem for_mk {ti : DTI} {g : DTG} {tb : DTS} {Dn : DEnds} {σ : DS} {h h1 : DH} {its : List D} {stay : DH → Prop} (hi : ∀ R : List D → (DH → Prop) → DH → Prop, R its stay h1 → ti σ h R) (P : Nat → DS → DH → Prop) (p0 : P 0 σ h1) (hst : ∀ i σ h, P i σ h → stay h)
    (turn : ∀ i d σ h, its[i]? = some d → P i σ h → g d σ h fun σ2 h2 => tb { Dn with nx := P (i + 1), ct := P (i + 1), bk := Dn.nx } σ2 h2) (done : ∀ σ h, P its.length σ h → Dn.nx σ h) : dFor ti g tb Dn σ h :=
  hi _ ⟨P, p0, fun i σ h p => ⟨hst i σ h p, fun d e => turn i d σ h e p, fun e => done σ h (by rw [← e]; exact p)⟩⟩
/-- a comprehension likewise -/
theorem lc_mk {ti : DTI} {g : DTG} {tt : DTT} {te : DTE} {vs : List Nat} {σ : DS} {h h1 : DH} {Q : List D → DH → Prop} {its : List D} {stay : DH → Prop} (hi : ∀ R : List D → (DH → Prop) → DH → Prop, R its stay h1 → ti σ h R) (P : Nat → List D → DH → Prop) (p0 : P 0 [] h1) (hst : ∀ i acc h, P i acc h → stay h)
    (turn : ∀ i d acc h, its[i]? = some d → P i acc h → g d (dwipe σ vs) h fun σ2 h2 => tt σ2 h2 fun b h3 => if b = true then te σ2 h3 fun y h4 => acc.length < sizeLine ∧ P (i + 1) (acc ++ [y]) h4 else P (i + 1) acc h3) (done : ∀ acc h, P its.length acc h → Q acc h) : dLc ti g tt te vs σ h Q :=
  hi _ ⟨P, p0, fun i acc h p => ⟨hst i acc h p, fun d e => turn i d acc h e p, fun e => done acc h (by rw [← e]; exact p)⟩⟩
/-- a comprehension without tests whose elements change nothing that is told: a map -/
theorem lc_map {ti : DTI} {g : DTG} {te : DTE} {vs : List Nat} {σ : DS} {h h1 : DH} {Q : List D → DH → Prop} {its : List D} {stay : DH → Prop} (f : Nat → D → D) (hi : ∀ R : List D → (DH → Prop) → DH → Prop, R its stay h1 → ti σ h R) (hst : stay h1) (hz : its.length ≤ sizeLine)
    (turn : ∀ (i : Nat) (d : D) (Q : DK), its[i]? = some d → Q (f i d) h1 → g d (dwipe σ vs) h1 fun σ2 h2 => te σ2 h2 Q) (done : Q (its.mapIdx f) h1) : dLc ti g dYes te vs σ h Q := by
  refine lc_mk hi (fun i acc h => h = h1 ∧ acc = (its.take i).mapIdx f) ⟨rfl, rfl⟩ (fun i acc h e => by rw [e.1]; exact hst) ?_ ?_
  · rintro i d acc _ e ⟨rfl, rfl⟩
    have hlt : i < its.length := (List.getElem?_eq_some_iff.mp e).1
    refine turn i d _ e ?_
    refine ⟨by simp; omega, rfl, ?_⟩
    rw [List.take_add_one, e]
    simp [List.mapIdx_append, List.mapIdx_singleton]
    rw [Nat.min_eq_left (Nat.le_of_lt hlt)]
  · rintro acc _ ⟨rfl, rfl⟩
    simpa using done
/-- a while: what holds ahead of each turn, with a number that falls -/
theorem while_mk {c : DTT} {tb : DTS} {Dn : DEnds} {σ : DS} {h : DH} (W : Nat → DS → DH → Prop) (m : Nat) (w0 : W m σ h)
    (turn : ∀ m σ h, W m σ h → c σ h fun b h1 => if b = true then tb { Dn with nx := fun σ' h' => ∃ m', m' < m ∧ W m' σ' h', ct := fun σ' h' => ∃ m', m' < m ∧ W m' σ' h', bk := Dn.nx } σ h1 else Dn.nx σ h1) : dWhile c tb Dn σ h := ⟨W, ⟨m, w0⟩, turn⟩
/-- ranges -/
theorem rng1 {σ : DS} {h h1 : DH} {R : List D → (DH → Prop) → DH → Prop} {te : DTE} {n : Int} (t : ∀ Q : DK, Q (.int n) h1 → te σ h Q) (b1 : 0 ≤ n) (b2 : n ≤ 1000000000) (r : R (rngD 0 n.toNat) (fun _ => True) h1) : dRange1 (dCons te dNil) σ h R := t _ ⟨⟨by omega, by omega⟩, r⟩
theorem rng_some {lo : Int} {n i : Nat} {d : D} (e : (rngD lo n)[i]? = some d) : i < n ∧ d = .int (lo + (i : Nat)) := by
  have l : i < n := by
    have := (List.getElem?_eq_some_iff.mp e).1
    rwa [rngD_len] at this
  rw [rngD_get l] at e
  exact ⟨l, (Option.some.inj e).symm⟩
theorem le_size {n : Nat} (h : n ≤ 16777216) : n ≤ sizeLine := Nat.le_trans h (by decide)
theorem lt_size {n : Nat} (h : n < 16777216) : n < sizeLine := Nat.lt_of_lt_of_le h (by decide)
theorem mulC_l {i j : Int} (h1 : -18446744073709551616 < i) (h2 : i < 18446744073709551616) : mulC i j := .inl ⟨h1, h2⟩
theorem mulC_r {i j : Int} (h1 : -18446744073709551616 < j) (h2 : j < 18446744073709551616) : mulC i j := .inr ⟨h1, h2⟩
end DL

namespace DL
open PySem PySem.Spec L2
open PyProof.Rows hiding St
mutual
/-- x and y are alike, with n places to look at -/
inductive Alk (h : DH) : D → D → Nat → Prop
  | int (i : Int) : Alk h (.int i) (.int i) 1
  | bl (b : Bool) : Alk h (.bl b) (.bl b) 1
  | non : Alk h .non .non 1
  | str (x : Str) : PyData.strOk x = true → Alk h (.str x) (.str x) 1
  | tup {xs ys : List D} {n : Nat} : Alks h xs ys n → Alk h (.tup xs) (.tup ys) (n + 1)
  | ref {a b : Addr} {xs ys : List D} {n : Nat} : h a = some (.lst xs) → h b = some (.lst ys) → Alks h xs ys n → Alk h (.ref a) (.ref b) (n + 1)
inductive Alks (h : DH) : List D → List D → Nat → Prop
  | nil : Alks h [] [] 0
  | cons {x y : D} {xs ys : List D} {m n : Nat} : Alk h x y m → Alks h xs ys n → Alks h (x :: xs) (y :: ys) (m + n)
end
theorem Alks.lens {h : DH} : ∀ {xs ys : List D} {n : Nat}, Alks h xs ys n → xs.length = ys.length ∧ xs.length ≤ n
  | [], [], _, _ => by simp
  | [], _ :: _, _, q => by cases q
  | _ :: _, [], _, q => by cases q
  | x :: xs, y :: ys, _, q => by
    cases q with
    | @cons _ _ _ _ m n a b =>
      have := Alks.lens b
      have : 1 ≤ m := by cases a <;> omega
      simp only [List.length_cons]
      omega
mutual
theorem Alk.mono {h h' : DH} (m : ∀ a o, h a = some o → h' a = some o) : ∀ {x y : D} {n : Nat}, Alk h x y n → Alk h' x y n
  | _, _, _, .int i => .int i
  | _, _, _, .bl i => .bl i
  | _, _, _, .non => .non
  | _, _, _, .str i k => .str i k
  | _, _, _, .tup q => .tup (Alks.mono m q)
  | _, _, _, .ref e f q => .ref (m _ _ e) (m _ _ f) (Alks.mono m q)
theorem Alks.mono {h h' : DH} (m : ∀ a o, h a = some o → h' a = some o) : ∀ {x y : List D} {n : Nat}, Alks h x y n → Alks h' x y n
  | _, _, _, .nil => .nil
  | _, _, _, .cons a b => .cons (Alk.mono m a) (Alks.mono m b)
end
theorem Alks.ints (h : DH) : ∀ ns : List Int, Alks h (ns.map .int) (ns.map .int) ns.length
  | [] => .nil
  | n :: ns => by
    have := Alks.cons (.int n) (Alks.ints h ns)
    rw [Nat.add_comm] at this
    exact this
/-- a heap with one more -/
theorem keeps_new {h : DH} {p : Addr} {o : DO} (n : h p = none) : ∀ a u, h a = some u → updD h p o a = some u := fun a u e => by
  rw [updD_ne]
  · exact e
  · rintro rfl; rw [n] at e; cases e
theorem new_ne {h : DH} {p a : Addr} {u : DO} (n : h p = none) (e : h a = some u) : a ≠ p := by rintro rfl; rw [n] at e; cases e
theorem sub_new {h : DH} {p : Addr} {o : DO} (n : h p = none) : Sub h (updD h p o) := keeps_new n
end DL

namespace DL
open PySem PySem.Spec L2
open PyProof.Rows hiding St
section
variable {h : DH} {Q : DK} {i : Int} {c : Bool} {x : Str} {ds : List D}
theorem isi_int_bool : rIsi1 [(.int i), .ty "bool"] h Q = Q (.bl false) h := rfl
theorem isi_int_int : rIsi1 [(.int i), .ty "int"] h Q = Q (.bl true) h := rfl
theorem isi_int_str : rIsi1 [(.int i), .ty "str"] h Q = Q (.bl false) h := rfl
theorem isi_int_tuple : rIsi1 [(.int i), .ty "tuple"] h Q = Q (.bl false) h := rfl
theorem isi_int_list : rIsi1 [(.int i), .ty "list"] h Q = Q (.bl false) h := rfl
theorem isi_int_dict : rIsi1 [(.int i), .ty "dict"] h Q = Q (.bl false) h := rfl
theorem isit_int_tl : kitsN "int" ["tuple", "list"] = some false := rfl
theorem isit_int_lt : kitsN "int" ["list", "tuple"] = some false := rfl
theorem isi_bl_bool : rIsi1 [(.bl c), .ty "bool"] h Q = Q (.bl true) h := rfl
theorem isi_bl_int : rIsi1 [(.bl c), .ty "int"] h Q = Q (.bl true) h := rfl
theorem isi_bl_str : rIsi1 [(.bl c), .ty "str"] h Q = Q (.bl false) h := rfl
theorem isi_bl_tuple : rIsi1 [(.bl c), .ty "tuple"] h Q = Q (.bl false) h := rfl
theorem isi_bl_list : rIsi1 [(.bl c), .ty "list"] h Q = Q (.bl false) h := rfl
theorem isi_bl_dict : rIsi1 [(.bl c), .ty "dict"] h Q = Q (.bl false) h := rfl
theorem isit_bl_tl : kitsN "bool" ["tuple", "list"] = some false := rfl
theorem isit_bl_lt : kitsN "bool" ["list", "tuple"] = some false := rfl
theorem isi_non_bool : rIsi1 [.non, .ty "bool"] h Q = Q (.bl false) h := rfl
theorem isi_non_int : rIsi1 [.non, .ty "int"] h Q = Q (.bl false) h := rfl
theorem isi_non_str : rIsi1 [.non, .ty "str"] h Q = Q (.bl false) h := rfl
theorem isi_non_tuple : rIsi1 [.non, .ty "tuple"] h Q = Q (.bl false) h := rfl
theorem isi_non_list : rIsi1 [.non, .ty "list"] h Q = Q (.bl false) h := rfl
theorem isi_non_dict : rIsi1 [.non, .ty "dict"] h Q = Q (.bl false) h := rfl
theorem isit_non_tl : kitsN "NoneType" ["tuple", "list"] = some false := rfl
theorem isit_non_lt : kitsN "NoneType" ["list", "tuple"] = some false := rfl
theorem isi_str_bool : rIsi1 [(.str x), .ty "bool"] h Q = Q (.bl false) h := rfl
theorem isi_str_int : rIsi1 [(.str x), .ty "int"] h Q = Q (.bl false) h := rfl
theorem isi_str_str : rIsi1 [(.str x), .ty "str"] h Q = Q (.bl true) h := rfl
theorem isi_str_tuple : rIsi1 [(.str x), .ty "tuple"] h Q = Q (.bl false) h := rfl
theorem isi_str_list : rIsi1 [(.str x), .ty "list"] h Q = Q (.bl false) h := rfl
theorem isi_str_dict : rIsi1 [(.str x), .ty "dict"] h Q = Q (.bl false) h := rfl
theorem isit_str_tl : kitsN "str" ["tuple", "list"] = some false := rfl
theorem isit_str_lt : kitsN "str" ["list", "tuple"] = some false := rfl
theorem isi_tup_bool : rIsi1 [(.tup ds), .ty "bool"] h Q = Q (.bl false) h := rfl
theorem isi_tup_int : rIsi1 [(.tup ds), .ty "int"] h Q = Q (.bl false) h := rfl
theorem isi_tup_str : rIsi1 [(.tup ds), .ty "str"] h Q = Q (.bl false) h := rfl
theorem isi_tup_tuple : rIsi1 [(.tup ds), .ty "tuple"] h Q = Q (.bl true) h := rfl
theorem isi_tup_list : rIsi1 [(.tup ds), .ty "list"] h Q = Q (.bl false) h := rfl
theorem isi_tup_dict : rIsi1 [(.tup ds), .ty "dict"] h Q = Q (.bl false) h := rfl
theorem isit_tup_tl : kitsN "tuple" ["tuple", "list"] = some true := rfl
theorem isit_tup_lt : kitsN "tuple" ["list", "tuple"] = some true := rfl
theorem isit_lst_tl : kitsN "list" ["tuple", "list"] = some true := rfl
theorem isit_lst_lt : kitsN "list" ["list", "tuple"] = some true := rfl
theorem isi_ref_bool {a : Addr} {es : List D} (e : h a = some (.lst es)) : rIsi1 [.ref a, .ty "bool"] h Q = Q (.bl false) h := by simp [rIsi1, kindD, e, show kitB "list" "bool" = some false from rfl]
theorem isi_ref_int {a : Addr} {es : List D} (e : h a = some (.lst es)) : rIsi1 [.ref a, .ty "int"] h Q = Q (.bl false) h := by simp [rIsi1, kindD, e, show kitB "list" "int" = some false from rfl]
theorem isi_ref_str {a : Addr} {es : List D} (e : h a = some (.lst es)) : rIsi1 [.ref a, .ty "str"] h Q = Q (.bl false) h := by simp [rIsi1, kindD, e, show kitB "list" "str" = some false from rfl]
theorem isi_ref_tuple {a : Addr} {es : List D} (e : h a = some (.lst es)) : rIsi1 [.ref a, .ty "tuple"] h Q = Q (.bl false) h := by simp [rIsi1, kindD, e, show kitB "list" "tuple" = some false from rfl]
theorem isi_ref_list {a : Addr} {es : List D} (e : h a = some (.lst es)) : rIsi1 [.ref a, .ty "list"] h Q = Q (.bl true) h := by simp [rIsi1, kindD, e, show kitB "list" "list" = some true from rfl]
theorem isi_ref_dict {a : Addr} {es : List D} (e : h a = some (.lst es)) : rIsi1 [.ref a, .ty "dict"] h Q = Q (.bl false) h := by simp [rIsi1, kindD, e, show kitB "list" "dict" = some false from rfl]
theorem shaped_str {x : Str} (k : PyData.strOk x = true) : SeqAt.shaped (.str x) = true := by simp [SeqAt.shaped, PyData.canLay0, PyData.depth, k]
theorem kind_int : kindD h (.int i) = some "int" := rfl
theorem kind_bl : kindD h (.bl c) = some "bool" := rfl
theorem kind_non : kindD h .non = some "NoneType" := rfl
theorem kind_str : kindD h (.str x) = some "str" := rfl
theorem kind_tup : kindD h (.tup ds) = some "tuple" := rfl
theorem kind_ref {a : Addr} {es : List D} (e : h a = some (.lst es)) : kindD h (.ref a) = some "list" := by simp [kindD, e]
theorem rNeU_bl (a b : Bool) : rNeU (.bl a) (.bl b) h Q = Q (.bl (!(a == b))) h := by
  show (SeqAt.shaped (.bool a) = true ∧ SeqAt.shaped (.bool b) = true ∧ Q (.bl (!PyData.eqv (.bool a) (.bool b))) h) = _
  rw [show SeqAt.shaped (.bool a) = true from rfl, show SeqAt.shaped (.bool b) = true from rfl]
  cases a <;> cases b <;> simp [PyData.eqv]
theorem rNeU_str (a b : Str) (ka : PyData.strOk a = true) (kb : PyData.strOk b = true) : rNeU (.str a) (.str b) h Q = Q (.bl (!(a == b))) h := by
  show (SeqAt.shaped (.str a) = true ∧ SeqAt.shaped (.str b) = true ∧ Q (.bl (!PyData.eqv (.str a) (.str b))) h) = _
  rw [shaped_str ka, shaped_str kb]
  simp [PyData.eqv]
theorem rEqU_str (a b : Str) (ka : PyData.strOk a = true) (kb : PyData.strOk b = true) : rEqU (.str a) (.str b) h Q = Q (.bl (a == b)) h := by
  show (SeqAt.shaped (.str a) = true ∧ SeqAt.shaped (.str b) = true ∧ Q (.bl (PyData.eqv (.str a) (.str b))) h) = _
  rw [shaped_str ka, shaped_str kb]
  simp [PyData.eqv]
theorem rNeU_non : rNeU .non .non h Q = Q (.bl false) h := by
  show (SeqAt.shaped .none = true ∧ SeqAt.shaped .none = true ∧ Q (.bl (!PyData.eqv .none .none)) h) = _
  rw [show SeqAt.shaped .none = true from rfl]
  simp [PyData.eqv]
theorem rLen_ref {a : Addr} {es : List D} (e : h a = some (.lst es)) : rLen [.ref a] h Q = Q (.int es.length) h := by simp [rLen, itemsD, e]
theorem items_tup : itemsD h (.tup ds) = some ds := rfl
theorem items_lst {a : Addr} {es : List D} (e : h a = some (.lst es)) : itemsD h (.ref a) = some es := by simp [itemsD, e]
end
end DL

namespace DL
open PySem PySem.Spec L2
open PyProof.Rows hiding St
/-! ### data of short ints: what repr says of it is a text that can be compared -/
mutual
def okN : PyData → Bool
  | .none | .bool _ => true
  | .int i => decide (i.natAbs < 1000000000000)
  | .list xs | .tuple xs => okNs xs
  | .str _ | .dict _ => false
def okNs : List PyData → Bool
  | [] => true
  | x :: xs => okN x && okNs xs
end
theorem int13 {i : Int} (h : i.natAbs < 1000000000000) : (PyData.shown (.int i)).length ≤ 13 := by
  have := int_text_length_le10 (a := i) (k := 12) (by decide) h
  simp only [PyData.shown]
  rw [PySem.ofString_length]; exact this
mutual
theorem okN_lay : ∀ p : PyData, okN p = true → p.canLay0 = true ∧ p.intsShort 13 = true ∧ p.showable = true ∧ p.hasDict = false
  | .none, _ => ⟨rfl, rfl, rfl, rfl⟩
  | .bool _, _ => ⟨rfl, rfl, rfl, rfl⟩
  | .int i, h => by
    have h' : i.natAbs < 1000000000000 := by simpa only [okN, decide_eq_true_eq] using h
    refine ⟨rfl, ?_, ?_, rfl⟩
    · simp only [PyData.intsShort, decide_eq_true_eq]; exact int13 h'
    · simp only [PyData.showable, decide_eq_true_eq]
      by_cases z : i.natAbs = 0
      · rw [z]; decide
      · refine (Nat.log2_lt z).mpr (Nat.lt_of_lt_of_le h' ?_)
        exact Nat.le_trans (show 1000000000000 ≤ 2 ^ 40 by decide) (Nat.pow_le_pow_right (by decide) (by decide))
  | .list xs, h => by
    have := okNs_lay xs (by simpa only [okN] using h)
    simpa only [PyData.canLay0, PyData.intsShort, PyData.showable, PyData.hasDict] using this
  | .tuple xs, h => by
    have := okNs_lay xs (by simpa only [okN] using h)
    simpa only [PyData.canLay0, PyData.intsShort, PyData.showable, PyData.hasDict] using this
theorem okNs_lay : ∀ xs : List PyData, okNs xs = true → PyData.canLayAll0 xs = true ∧ PyData.intsShortAll 13 xs = true ∧ PyData.showableAll xs = true ∧ PyData.hasDictAll xs = false
  | [], _ => ⟨rfl, rfl, rfl, rfl⟩
  | x :: xs, h => by
    have h' : okN x = true ∧ okNs xs = true := by simpa only [okNs, Bool.and_eq_true] using h
    obtain ⟨a1, a2, a3, a4⟩ := okN_lay x h'.1
    obtain ⟨b1, b2, b3, b4⟩ := okNs_lay xs h'.2
    simp only [PyData.canLayAll0, PyData.intsShortAll, PyData.showableAll, PyData.hasDictAll, a1, a2, a3, a4, b1, b2, b3, b4]
    decide
end
theorem strOk_str (s : String) : PyData.strOk (Str.ofString s) = true := by
  rw [Str.ofString_eq_toList]
  simp only [PyData.strOk]
  rw [Array.all_eq_true_iff_forall_mem]
  intro x hx
  simp only [List.mem_toArray, List.mem_map] at hx
  obtain ⟨c, _, rfl⟩ := hx
  have := c.valid
  have e : c.toNat = c.val.toNat := rfl
  rw [e]
  simp only [UInt32.isValidChar, Nat.isValidChar] at this
  simp only [decide_eq_true_eq]
  omega
theorem strOk_app {a b : Str} (ha : PyData.strOk a = true) (hb : PyData.strOk b = true) : PyData.strOk (a ++ b) = true := by
  show Array.all (a.cps ++ b.cps) _ = true
  rw [Array.all_append]
  simp only [PyData.strOk] at ha hb
  rw [ha, hb]; rfl
theorem strOk_join {sep : Str} (h : PyData.strOk sep = true) : ∀ {ts : List Str}, (∀ t ∈ ts, PyData.strOk t = true) → PyData.strOk (Str.join sep ts) = true
  | [], _ => strOk_str ""
  | [x], g => g x List.mem_cons_self
  | x :: y :: r, g => strOk_app (strOk_app (g x List.mem_cons_self) h) (strOk_join h fun t ht => g t (List.mem_cons_of_mem _ ht))
theorem strOk_from : ∀ (ts : List Str) (k : Nat) (acc : Str), PyData.strOk acc = true → (∀ t ∈ ts, PyData.strOk t = true) → PyData.strOk (textFrom k acc ts) = true
  | [], _, _, h, _ => h
  | t :: ts, k, acc, h, g => by
    refine strOk_from ts (k + 1) _ (strOk_app (strOk_app h ?_) (g t List.mem_cons_self)) fun t ht => g t (List.mem_cons_of_mem _ ht)
    exact strOk_str _
mutual
theorem okN_shown : ∀ p : PyData, okN p = true → PyData.strOk p.shown = true
  | .none, _ => by simp only [PyData.shown]; exact strOk_str _
  | .bool b, _ => by simp only [PyData.shown]; split <;> exact strOk_str _
  | .int i, h => by simp only [PyData.shown]; exact strOk_str _
  | .list xs, h => by
    have := okNs_shown xs (by simpa only [okN] using h)
    simp only [PyData.shown, listText]
    exact strOk_app (strOk_from _ _ _ (strOk_str _) this) (strOk_str _)
  | .tuple xs, h => by
    have := okNs_shown xs (by simpa only [okN] using h)
    simp only [PyData.shown, tupleText]
    exact strOk_app (strOk_app (strOk_str _) (strOk_join (strOk_str _) this)) (strOk_str _)
theorem okNs_shown : ∀ xs : List PyData, okNs xs = true → ∀ t ∈ PyData.shownAll xs, PyData.strOk t = true
  | [], _ => by intro t ht; simp [PyData.shownAll] at ht
  | x :: xs, h => by
    have h' : okN x = true ∧ okNs xs = true := by simpa only [okNs, Bool.and_eq_true] using h
    intro t ht
    simp only [PyData.shownAll, List.mem_cons] at ht
    rcases ht with rfl | ht
    · exact okN_shown x h'.1
    · exact okNs_shown xs h'.2 t ht
end
theorem repr_go {d : D} {p : PyData} {h : DH} {Q : DK} (e : pyD h 12 d = some p) (disp : isDisplay p = true) (ok : okN p = true) (dep : p.depth ≤ 60) (w : p.weight ≤ 2 ^ 20) (q : Q (.str p.shown) h) : rRepr [d] h Q := by
  obtain ⟨a1, a2, a3, a4⟩ := okN_lay p ok
  simp only [rRepr, e]
  exact ⟨disp, a3, a4, dep, PyData.shown_fits (by decide) (Nat.le_refl 13) (PyData.leavesShort_of_canLay0 13 p a1 a2) w, q⟩
/-! ### ints as data -/
abbrev IL (ns : List Int) : List D := ns.map D.int
theorem pyAll_ints (h : DH) (n : Nat) : ∀ ns : List Int, pyAll (pyD h (n + 1)) (ns.map D.int) = some (ns.map PyData.int)
  | [] => rfl
  | x :: xs => by
    have := pyAll_ints h n xs
    simp only [List.map_cons, pyAll, this]
    rfl
theorem pyD_ints (h : DH) (n : Nat) (ns : List Int) : pyD h (n + 2) (.tup (ns.map D.int)) = some (.tuple (ns.map PyData.int)) := by
  show (pyAll (pyD h (n + 1)) (ns.map D.int)).map PyData.tuple = _
  rw [pyAll_ints]; rfl
theorem pyD_ref {h : DH} {a : Addr} {ns : List Int} (n : Nat) (e : h a = some (.lst (ns.map D.int))) : pyD h (n + 2) (.ref a) = some (.list (ns.map PyData.int)) := by
  show (match h a with
      | some (.lst ds) => (pyAll (pyD h (n + 1)) ds).map PyData.list
      | _ => none) = _
  rw [e]
  simp only [pyAll_ints]
  rfl
theorem okNs_ints : ∀ {ns : List Int}, (∀ x ∈ ns, x.natAbs < 1000000000000) → okNs (ns.map PyData.int) = true
  | [], _ => rfl
  | x :: xs, g => by
    simp only [List.map_cons, okNs, okN, Bool.and_eq_true, decide_eq_true_eq]
    exact ⟨g x List.mem_cons_self, okNs_ints fun y hy => g y (List.mem_cons_of_mem _ hy)⟩
theorem depth_ints : ∀ ns : List Int, PyData.depthAll (ns.map PyData.int) = 0
  | [] => rfl
  | x :: xs => by simp only [List.map_cons, PyData.depthAll, PyData.depth, depth_ints xs]; rfl
theorem weight_ints : ∀ {ns : List Int}, (∀ x ∈ ns, x.natAbs < 1000000000000) → PyData.weightAll (ns.map PyData.int) ≤ 42 * ns.length
  | [], _ => Nat.le_refl _
  | x :: xs, g => by
    have h1 := weight_ints (ns := xs) fun y hy => g y (List.mem_cons_of_mem _ hy)
    have h2 := g x List.mem_cons_self
    simp only [List.map_cons, PyData.weightAll, PyData.weight, List.length_cons]
    by_cases z : x = 0
    · rw [if_pos (by simpa using z)]; omega
    · rw [if_neg (by simpa using z)]
      have : x.natAbs.log2 < 40 := (Nat.log2_lt (by omega)).mpr (Nat.lt_of_lt_of_le h2 (by decide))
      omega
theorem shaped_ints (ns : List Int) : PyData.canLayAll0 (ns.map PyData.int) = true := by
  induction ns with
  | nil => rfl
  | cons x xs ih => simp only [List.map_cons, PyData.canLayAll0, PyData.canLay0, ih]; rfl
theorem shaped_tuple (ns : List Int) : SeqAt.shaped (.tuple (ns.map PyData.int)) = true := by
  simp only [SeqAt.shaped, PyData.canLay0, PyData.depth, shaped_ints, depth_ints]; decide
theorem shaped_list (ns : List Int) : SeqAt.shaped (.list (ns.map PyData.int)) = true := by
  simp only [SeqAt.shaped, PyData.canLay0, PyData.depth, shaped_ints, depth_ints]; decide
end DL

namespace DL
open PySem PySem.Spec L2
open PyProof.Rows hiding St

/-! ### dicts with keys ints and texts -/
def keyD : D → Option Key
  | .int i => some (.inl i)
  | .str x => some (.inr x)
  | _ => none
theorem keyD_rep {K : PySem.W.Frag} {H : Hp} {d : D} {v : V} {k : Key} (e : keyD d = some k) (r : Rep K H d v) : v = kV k := by
  cases d <;> first | (cases e; first | exact rep_int r | exact rep_str r) | cases e
def valG {α : Type} (kvs : List (Key × α)) (k : Key) : Option α := match kvs with
  | [] => none
  | (j, x) :: r => if j = k then some x else valG r k
def putG {α : Type} (kvs : List (Key × α)) (k : Key) (y : α) : List (Key × α) := match kvs with
  | [] => [(k, y)]
  | (j, x) :: r => if j = k then (j, y) :: r else (j, x) :: putG r k y
theorem KReps.val {K : PySem.W.Frag} {H : Hp} : ∀ {kvs : List (Key × D)} {vvs : List (Key × V)} {k : Key}, KReps K H kvs vvs → (∀ d, valG kvs k = some d → ∃ v, valV vvs k = some v ∧ Rep K H d v) ∧ (valG kvs k = none → valV vvs k = none)
  | [], _, k, r => by
    have e : _ = [] := r
    subst e
    exact ⟨fun d e => (by cases e), fun _ => rfl⟩
  | (j, x) :: kvs, _, k, r => by
    unfold KReps at r
    obtain ⟨v, r', rfl, a, b⟩ := r
    unfold valG
    by_cases h : j = k
    · rw [if_pos h]
      refine ⟨fun d e => ?_, fun e => (by cases e)⟩
      cases e
      exact ⟨v, valV_pos h, a⟩
    · rw [if_neg h, valV_neg (p := (j, v)) h]
      exact KReps.val b
theorem KReps.keys {K : PySem.W.Frag} {H : Hp} : ∀ {kvs : List (Key × D)} {vvs : List (Key × V)}, KReps K H kvs vvs → vvs.map (·.1) = kvs.map (·.1)
  | [], _, r => by
    have e : _ = [] := r
    subst e; rfl
  | (j, x) :: kvs, _, r => by
    unfold KReps at r
    obtain ⟨v, r', rfl, a, b⟩ := r
    simp only [List.map_cons, KReps.keys b]
theorem putK_map {vvs : List (Key × V)} {k : Key} {y : V} (nd : (vvs.map (·.1)).Nodup) : putK vvs k y = putG vvs k y := by
  induction vvs with
  | nil => rfl
  | cons p r ih =>
    obtain ⟨j, x⟩ := p
    simp only [List.map_cons, List.nodup_cons] at nd
    have ih := ih nd.2
    unfold putK at ih ⊢
    simp only [List.any_cons, List.map_cons, putG]
    by_cases h : j = k
    · subst h
      have no : ∀ q ∈ r, ¬ q.1 = j := fun q hq e => nd.1 (List.mem_map.mpr ⟨q, hq, e⟩)
      have : r.map (fun kv => if kv.1 = j then (kv.1, y) else kv) = r := by
        conv => rhs; rw [← List.map_id r]
        apply List.map_congr_left
        intro q hq
        rw [if_neg (no q hq)]; rfl
      simp [this]
    · have hd : decide (j = k) = false := by simp [h]
      rw [hd, Bool.false_or, if_neg h, if_neg h]
      by_cases ha : (r.any fun kv => decide (kv.1 = k)) = true
      · rw [if_pos ha] at ih ⊢
        rw [ih]
      · rw [if_neg ha] at ih ⊢
        rw [List.cons_append, ih]
theorem KReps.put {K : PySem.W.Frag} {H : Hp} {k : Key} {d : D} {v : V} (q : Rep K H d v) : ∀ {kvs : List (Key × D)} {vvs : List (Key × V)}, KReps K H kvs vvs → KReps K H (putG kvs k d) (putG vvs k v)
  | [], _, r => by
    have e : _ = [] := r
    subst e
    exact ⟨v, [], rfl, q, rfl⟩
  | (j, x) :: kvs, _, r => by
    unfold KReps at r
    obtain ⟨u, r', rfl, a, b⟩ := r
    unfold putG
    by_cases h : j = k
    · rw [if_pos h, if_pos h]
      exact ⟨v, r', rfl, q, b⟩
    · rw [if_neg h, if_neg h]
      exact ⟨u, _, rfl, a, KReps.put q b⟩
theorem putG_keys {α : Type} (k : Key) (y : α) : ∀ kvs : List (Key × α), (kvs.map (·.1)).Nodup → ((putG kvs k y).map (·.1)).Nodup ∧ ∀ j, j ∈ (putG kvs k y).map (·.1) → j = k ∨ j ∈ kvs.map (·.1)
  | [], _ => ⟨by simp [putG], by simp [putG]⟩
  | (j, x) :: r, nd => by
    simp only [List.map_cons, List.nodup_cons] at nd
    unfold putG
    by_cases h : j = k
    · rw [if_pos h]
      refine ⟨by simpa using nd, fun i hi => .inr (by simpa using hi)⟩
    · rw [if_neg h]
      obtain ⟨a, b⟩ := putG_keys k y r nd.2
      refine ⟨?_, fun i hi => ?_⟩
      · simp only [List.map_cons, List.nodup_cons]
        refine ⟨fun hm => ?_, a⟩
        rcases b j hm with e | e
        · exact h e
        · exact nd.1 e
      · simp only [List.map_cons, List.mem_cons] at hi ⊢
        rcases hi with e | e
        · exact .inr (.inl e)
        · rcases b i e with e | e
          · exact .inl e
          · exact .inr (.inr e)
def dictD (h : DH) : D → Option (List (Key × D))
  | .ref a => match h a with
    | some (.dct kvs) => some kvs
    | _ => none
  | _ => none
theorem dict_of {K : PySem.W.Frag} {H : Hp} {h : DH} {d : D} {v : V} {kvs : List (Key × D)} (r : HR K H h) (e : dictD h d = some kvs) (q : Rep K H d v) : ∃ a vvs, d = .ref a ∧ v = .ref a ∧ h a = some (.dct kvs) ∧ H a = some (.dK vvs) ∧ KReps K H kvs vvs := by
  cases d with
  | ref a =>
    obtain rfl := rep_ref q
    have e' : (match h a with
      | some (.dct kvs) => some kvs
      | _ => none) = some kvs := e
    split at e'
    · rename_i k z
      obtain rfl := Option.some.inj e'
      obtain ⟨u, hu, ho⟩ := r a _ z
      cases u with
      | dK vvs => exact ⟨a, vvs, rfl, rfl, z, hu, ho⟩
      | _ => exact False.elim ho
    · exact absurd e' (by simp)
  | _ => cases e
/-- d[k] -/
def rDGet : DR2 := fun x y h Q => match dictD h x, keyD y with
  | some kvs, some k => match valG kvs k with
    | some d => Q d h
    | none => False
  | _, _ => False
section
variable {X : Cx} {o i f : Expr} {to ti tf : DTE} {pos apos : Pos}
theorem de_dget (hu : X.A.units + 1 < cLine) (ho : DE X o to) (hi : DE X i ti) (hs : NoSl i := by exact fun _ _ => rfl) : DE X (.Subscript o i pos) (dOp rDGet to ti) :=
  (pe_dget hu ho hi hs).imp fun σ H Q ⟨σD, h, QD, rs, q, p⟩ => by
    refine ⟨σD, h, _, rs, q, fun d1 h1 v1 H1 q1 rs1 r1 k1 => ⟨σD, h1, _, rs1, q1, fun d2 h2 v2 H2 q2 rs2 r2 k2 => ?_⟩⟩
    have q2' : rDGet d1 d2 h2 QD := q2
    unfold rDGet at q2'
    split at q2'
    · rename_i kvs k e1 e2
      obtain ⟨a, vvs, rfl, rfl, ha, hH, kr⟩ := dict_of rs2.hr e1 (r1.mono (k2.tup rs1.hr))
      split at q2'
      · rename_i d e3
        obtain ⟨v, hv, rv⟩ := kr.val.1 d e3
        obtain rfl := keyD_rep e2 r2
        exact ⟨a, v, rfl, by rw [← hv]; exact .k hH, p d h2 v H2 q2' rs2 rv (k1.trans k2)⟩
      · exact q2'.elim
    · exact q2'.elim
/-- d.get(k, x) -/
def rDGet2 (x y z : D) (h : DH) (Q : DK) : Prop := match dictD h x, keyD y with
  | some kvs, some k => Q ((valG kvs k).getD z) h
  | _, _ => False
def dDGet2 (to ti tf : DTE) : DTE := fun σ h Q => to σ h fun x h1 => (∃ kvs, dictD h1 x = some kvs) ∧ ti σ h1 fun y h2 => tf σ h2 fun z h3 => rDGet2 x y z h3 Q
theorem de_dget2 (hu : X.A.units + 1 < cLine) (ho : DE X o to) (hi : DE X i ti) (hf : DE X f tf) (m : M2 X o "get" apos i f pos) : DE X (.Call (.Attribute o "get" apos) [i, f] [] pos) (dDGet2 to ti tf) :=
  (pe_dget2 hu ho hi hf m).imp fun σ H Q ⟨σD, h, QD, rs, q, p⟩ => by
    refine ⟨σD, h, _, rs, q, fun d1 h1 v1 H1 q1 rs1 r1 k1 => ?_⟩
    obtain ⟨⟨kvs1, e0⟩, q1⟩ := q1
    obtain ⟨a, vvs1, rfl, rfl, _, hH1, _⟩ := dict_of rs1.hr e0 r1
    refine ⟨a, rfl, .inl ⟨vvs1, .inl hH1⟩, ⟨σD, h1, _, rs1, q1, fun d2 h2 v2 H2 q2 rs2 r2 k2 => ⟨σD, h2, _, rs2, q2, fun d3 h3 v3 H3 q3 rs3 r3 k3 => ?_⟩⟩⟩
    have q3' : rDGet2 (.ref a) d2 d3 h3 QD := q3
    unfold rDGet2 at q3'
    split at q3'
    · rename_i kvs k e1 e2
      obtain ⟨_, vvs, e, _, ha, hH, kr⟩ := dict_of rs3.hr e1 (v := .ref a) (by simp [Rep])
      cases e
      obtain rfl := keyD_rep e2 (r2.mono (k3.tup rs2.hr))
      have k13 := k1.trans (k2.trans k3)
      cases e3 : valG kvs k with
      | some d =>
        obtain ⟨v, hv, rv⟩ := kr.val.1 d e3
        rw [e3] at q3'
        exact ⟨some v, by rw [← hv]; exact .k hH, p d h3 v H3 q3' rs3 rv k13⟩
      | none =>
        rw [e3] at q3'
        exact ⟨none, by rw [← kr.val.2 e3]; exact .k hH, p d3 h3 v3 H3 q3' rs3 r3 k13⟩
    · exact q3'.elim
/-- k in d -/
def rDIn (neg : Bool) (y x : D) (h2 : DH) (Q : DK) : Prop := match dictD h2 x, keyD y with
  | some kvs, some k => Q (.bl (if neg then !(valG kvs k).isSome else (valG kvs k).isSome)) h2
  | _, _ => False
def dDIn (neg : Bool) (ti to : DTE) : DTE := fun σ h Q => ti σ h fun y h1 => to σ h1 fun x h2 => rDIn neg y x h2 Q
theorem de_din (hu : X.A.units + 1 < cLine) (hi : DE X i ti) (ho : DE X o to) (h1 : behindInMarks .In o = false := by rfl) : DE X (.Compare i [.In] [o] pos) (dDIn false ti to) :=
  (pe_cmp (pc_din hu hi ho) h1).imp fun σ H Q ⟨σD, h, QD, rs, q, p⟩ => by
    refine ⟨σD, h, _, rs, q, fun d1 h1 v1 H1 q1 rs1 r1 k1 => ⟨σD, h1, _, rs1, q1, fun d2 h2 v2 H2 q2 rs2 r2 k2 => ?_⟩⟩
    unfold rDIn at q2
    split at q2
    · rename_i kvs k e1 e2
      obtain ⟨a, vvs, rfl, rfl, ha, hH, kr⟩ := dict_of rs2.hr e1 r2
      obtain rfl := keyD_rep e2 r1
      refine ⟨a, _, rfl, .k hH, ?_⟩
      have : (valV vvs k).isSome = (valG kvs k).isSome := by
        cases e3 : valG kvs k with
        | some d => obtain ⟨v, hv, _⟩ := kr.val.1 d e3; rw [hv]; rfl
        | none => rw [kr.val.2 e3]; rfl
      rw [this]
      exact p _ h2 _ H2 q2 rs2 (by simp [Rep]) (k1.trans k2)
    · exact q2.elim
theorem de_dnotin (hu : X.A.units + 1 < cLine) (hi : DE X i ti) (ho : DE X o to) (h1 : behindInMarks .NotIn o = false := by rfl) : DE X (.Compare i [.NotIn] [o] pos) (dDIn true ti to) :=
  (pe_cmp (pc_dnotin hu hi ho) h1).imp fun σ H Q ⟨σD, h, QD, rs, q, p⟩ => by
    refine ⟨σD, h, _, rs, q, fun d1 h1 v1 H1 q1 rs1 r1 k1 => ⟨σD, h1, _, rs1, q1, fun d2 h2 v2 H2 q2 rs2 r2 k2 => ?_⟩⟩
    unfold rDIn at q2
    split at q2
    · rename_i kvs k e1 e2
      obtain ⟨a, vvs, rfl, rfl, ha, hH, kr⟩ := dict_of rs2.hr e1 r2
      obtain rfl := keyD_rep e2 r1
      refine ⟨a, _, rfl, .k hH, ?_⟩
      have : (valV vvs k).isSome = (valG kvs k).isSome := by
        cases e3 : valG kvs k with
        | some d => obtain ⟨v, hv, _⟩ := kr.val.1 d e3; rw [hv]; rfl
        | none => rw [kr.val.2 e3]; rfl
      rw [this]
      exact p _ h2 _ H2 q2 rs2 (by simp [Rep]) (k1.trans k2)
    · exact q2.elim
/-- {} -/
def dDNew : DTE := fun _ h Q => ∀ p, h p = none → Q (.ref p) (updD h p (.dct []))
theorem de_dnew : DE X (.Dict [] [] pos) dDNew := pe_dnewK.imp fun σ H Q ⟨σD, h, QD, rs, q, p⟩ => fun a n => by
  have hn : h a = none := by
    cases e : h a with
    | none => rfl
    | some o => obtain ⟨u, hu, _⟩ := rs.hr a o e; rw [n] at hu; cases hu
  exact p _ _ _ _ (q a hn) (rs.new n (o := .dct []) (show HOR X.K H (.dct []) (.dK []) from rfl)) (by simp [Rep]) (.new n)
end
end DL

namespace DL
open PySem PySem.Spec L2
open PyProof.Rows hiding St

/-! ### in a list, in a tuple: data of any depth -/
def rInBoth (neg : Bool) (K : PySem.W.Frag) : R2 := fun x y H Q => ∃ d ds, Dp K H x d ∧ (Dp K H y (.list ds) ∨ Dp K H y (.tuple ds)) ∧ SeqAt.shaped d = true ∧ SeqAt.shaped (.list ds) = true ∧ Q (.bl (if neg then !(ds.any fun z => PyData.eqv z d) else ds.any fun z => PyData.eqv z d)) H
section
variable {X : Cx}
theorem op_inBoth (hu : X.A.units + 65 < cLine) : OpR X (compareOp .In) (rInBoth false X.K) := by
  intro pins s σ H x y v u Q I rx ry h
  obtain ⟨d, ds, hd, he, sd, se, q⟩ := h
  obtain ⟨as, r1⟩ := Dp.reads I d x v hd rx
  rcases he with he | he
  · obtain ⟨bs, r2⟩ := Dp.reads I (.list ds) y u he ry
    exact SeqAt.in_list_reads r2 r1 (SeqAt.canLay_of_shaped se) (SeqAt.canLay_of_shaped sd) (room_in_shaped sd hu) ⟨.bl _, H, I, rfl, q⟩
  · obtain ⟨bs, r2⟩ := Dp.reads I (.tuple ds) y u he ry
    exact SeqAt.in_tuple_reads r2 r1 (SeqAt.canLay_of_shaped se) (SeqAt.canLay_of_shaped sd) (room_in_shaped sd hu) ⟨.bl _, H, I, rfl, q⟩
theorem op_notInBoth (hu : X.A.units + 65 < cLine) : OpR X (compareOp .NotIn) (rInBoth true X.K) := by
  intro pins s σ H x y v u Q I rx ry h
  obtain ⟨d, ds, hd, he, sd, se, q⟩ := h
  obtain ⟨as, r1⟩ := Dp.reads I d x v hd rx
  rcases he with he | he
  · obtain ⟨bs, r2⟩ := Dp.reads I (.list ds) y u he ry
    exact SeqAt.notIn_list_reads r2 r1 (SeqAt.canLay_of_shaped se) (SeqAt.canLay_of_shaped sd) (room_in_shaped sd hu) ⟨.bl _, H, I, rfl, q⟩
  · obtain ⟨bs, r2⟩ := Dp.reads I (.tuple ds) y u he ry
    exact SeqAt.notIn_tuple_reads r2 r1 (SeqAt.canLay_of_shaped se) (SeqAt.canLay_of_shaped sd) (room_in_shaped sd hu) ⟨.bl _, H, I, rfl, q⟩
end
def seqP : PyData → Option (List PyData)
  | .list ds => some ds
  | .tuple ds => some ds
  | _ => none
def rInU (neg : Bool) : DR2 := fun x y h Q => match pyD h 12 x, (pyD h 12 y).bind seqP with
  | some d, some ds => SeqAt.shaped d = true ∧ SeqAt.shaped (.list ds) = true ∧ Q (.bl (if neg then !(ds.any fun z => PyData.eqv z d) else ds.any fun z => PyData.eqv z d)) h
  | _, _ => False
theorem ad_inU {K : PySem.W.Frag} {neg : Bool} : Ad2 K (rInU neg) (rInBoth neg K) := by
  intro σD σ h H dx dy x y QD Q rs rx ry q p
  unfold rInU at q
  split at q
  · rename_i d ds e1 e2
    obtain ⟨s1, s2, q⟩ := q
    cases e3 : pyD h 12 dy with
    | none => rw [e3] at e2; exact absurd e2 (by simp)
    | some z =>
      rw [e3] at e2
      have e2' : seqP z = some ds := e2
      refine ⟨d, ds, pyD_dp rs.hr _ _ _ _ e1 rx, ?_, s1, s2, p _ h _ H q rs (by simp [Rep]) .refl⟩
      have dp := pyD_dp rs.hr _ _ _ _ e3 ry
      cases z with
      | list zs => cases e2'; exact .inl dp
      | tuple zs => cases e2'; exact .inr dp
      | _ => cases e2'
  · exact q.elim

/-! ### xs.pop(i) -/
def rPopAtD : D → List D → DH → DK → Prop := fun x vs h Q => match x, vs with
  | .ref a, [.int i] => match h a with
    | some (.lst ds) => match ds[i.toNat]? with
      | some y => 0 ≤ i ∧ ds.length ≤ 16777216 ∧ Q y (updD h a (.lst (ds.eraseIdx i.toNat)))
      | none => False
    | _ => False
  | _, _ => False
theorem Reps.erase {K : PySem.W.Frag} {H : Hp} : ∀ {ds : List D} {vs : List V} (k : Nat), Reps K H ds vs → Reps K H (ds.eraseIdx k) (vs.eraseIdx k)
  | [], _, k, r => by obtain rfl := reps_nil r; simpa [Reps] using r
  | d :: ds, _, k, r => by
    obtain ⟨v, r', rfl, a, b⟩ := reps_cons r
    cases k with
    | zero => simpa using b
    | succ k =>
      simp only [List.eraseIdx_cons_succ]
      unfold Reps
      exact ⟨v, _, rfl, a, Reps.erase k b⟩
theorem ad_popAt {K : PySem.W.Frag} : AdM K rPopAtD rPopAt := by
  intro σD σ h H dx x ds xs QD Q rs rx rxs q p
  unfold rPopAtD at q
  split at q
  · rename_i a i
    split at q
    · rename_i es e
      split at q
      · rename_i y e2
        obtain ⟨h0, hl, q⟩ := q
        obtain rfl := rep_ref rx
        obtain ⟨u, rfl, ru⟩ := reps_one rxs
        obtain rfl := rep_int ru
        obtain ⟨vs, hv, r⟩ := rs.hr.lst e
        obtain ⟨v, hv2, rv⟩ := r.get e2
        have lt := (List.getElem?_eq_some_iff.mp hv2).1
        have ll := r.len
        refine ⟨a, vs, i, i.toNat, v, rfl, rfl, hv, by omega, by omega, ?_, hv2, p _ _ _ _ q (rs.put e (o := .lst (es.eraseIdx i.toNat)) (u := .lst (vs.eraseIdx i.toNat)) (r.erase _)) (rv.mono (tupMono_put rs.hr e)) (.put e)⟩
        unfold PySem.seqIndex?
        simp only [show ¬ (i < 0) by omega, if_false]
        rw [if_pos (by simp; omega)]
      · exact q.elim
    · exact q.elim
  · exact q.elim

/-! ### list(range(n)) -/
def dLstRg (t : DTE) : DTE := fun σ h Q => t σ h fun x h1 => match x with
  | .int n => 0 ≤ n ∧ n ≤ 16777216 ∧ ∀ p, h1 p = none → Q (.ref p) (updD h1 p (.lst (rngD 0 n.toNat)))
  | _ => False
theorem rng_reps {K : PySem.W.Frag} {H : Hp} (n : Int) (h : 0 ≤ n) : Reps K H (rngD 0 n.toNat) (rgV 0 n) := by
  have e1 : rngD 0 n.toNat = ((List.range n.toNat).map fun i => (0 : Int) + (i : Nat)).map D.int := by simp [rngD]
  have e2 : rgV 0 n = ((List.range n.toNat).map fun i => (0 : Int) + (i : Nat)).map V.int := by simp [rgV]
  rw [e1, e2]
  exact ints_reps _
theorem de_listRg {X : Cx} {a : Expr} {ta : DTE} {p p2 pos pos2 : Pos} (hc : X.calm = true) (hg : Gl X "list") (hm : X.mg "list" = none) (hg2 : Gl X "range") (hm2 : X.mg "range" = none) (ha : DE X a ta)
    (na : starEach [a] X.env = (false, eval a X.env) :: starEach [] X.env := by rfl) (na2 : starEach [Expr.Call (.Name "range" p2) [a] [] pos2] X.env = (false, eval (.Call (.Name "range" p2) [a] [] pos2) X.env) :: starEach [] X.env := by rfl) :
    DE X (.Call (.Name "list" p) [.Call (.Name "range" p2) [a] [] pos2] [] pos) (dLstRg ta) :=
  (pe_listRg hc hg hm (prg_1 hg2 hm2 ha na) na2).imp fun σ H Q ⟨σD, h, QD, rs, q, p⟩ => by
    refine ⟨σD, h, _, rs, q, fun d1 h1 v1 H1 q1 rs1 r1 k1 => ?_⟩
    cases d1 with
    | int n =>
      obtain ⟨b1, b2, q1⟩ := q1
      obtain rfl := rep_int r1
      exact ⟨n, rfl, .of_le (by decide) (by omega) (by decide) b1, (p.after k1).lst rs1 (rng_reps n b1) q1⟩
    | _ => exact False.elim q1
/-! ### d[k] = v -/
def rDPut (v x y : D) (h3 : DH) (R : DH → Prop) : Prop := match x, keyD y, dictD h3 x with
  | .ref a, some k, some kvs => kvs.length < sizeLine ∧ (kvs.map (·.1)).Nodup ∧ R (updD h3 a (.dct (putG kvs k v)))
  | _, _, _ => False
def dDPut (to ti te : DTE) : DTS := fun D σ h => te σ h fun v h1 => to σ h1 fun x h2 => ti σ h2 fun y h3 => rDPut v x y h3 fun h4 => D.nx σ h4
theorem KReps.len {K : PySem.W.Frag} {H : Hp} {kvs : List (Key × D)} {vvs : List (Key × V)} (r : KReps K H kvs vvs) : vvs.length = kvs.length := by
  have := congrArg List.length r.keys
  simpa using this
theorem ds_dput {X : Cx} {o i value : Expr} {to ti te : DTE} {pos' pos : Pos} (hu : X.A.units + 1 < cLine) (ho : DE X o to) (hi : DE X i ti) (hv : DE X value te) (hs : swapsWith value (some (.Subscript o i pos')) pos.line X.env = pure false := by rfl) :
    DSt X (.Assign [.Subscript o i pos'] value pos) (dDPut to ti te) := (ps_dput hu ho hi hv hs).imp fun Ds σ H ⟨σD, h, DD, rs, q, p⟩ => by
  refine ⟨σD, h, _, rs, q, fun d1 h1 v1 H1 q1 rs1 r1 k1 => ⟨σD, h1, _, rs1, q1, fun d2 h2 v2 H2 q2 rs2 r2 k2 => ⟨σD, h2, _, rs2, q2, fun d3 h3 v3 H3 q3 rs3 r3 k3 => ?_⟩⟩⟩
  unfold rDPut at q3
  split at q3
  · rename_i a k kvs e1 e2
    obtain ⟨ln, nd, q3⟩ := q3
    obtain ⟨_, vvs, e, _, ha, hH, kr⟩ := dict_of rs3.hr e2 (v := .ref a) (by simp [Rep])
    cases e
    obtain rfl := keyD_rep e1 r3
    obtain rfl := rep_ref r2
    have rv := r1.mono ((k2.trans k3).tup rs1.hr)
    have kp := k1.trans (k2.trans k3)
    refine ⟨a, _, rfl, .k hH (by rw [kr.len]; exact ln), ?_⟩
    rw [putK_map (by rw [kr.keys]; exact nd)]
    exact p.nx σD _ σ _ q3 (rs3.put ha (o := .dct (putG kvs k d1)) (kr.put rv)) (kp.trans (.put ha))
  · exact q3.elim
/-! ### {k: v, ..} -/
def dPairs : List (DTE × DTE) → DS → DH → (List (D × D) → DH → Prop) → Prop
  | [], _, h, Q => Q [] h
  | (tk, tv) :: r, σ, h, Q => tk σ h fun x h1 => tv σ h1 fun y h2 => dPairs r σ h2 fun ps h3 => Q ((x, y) :: ps) h3
def PReps (K : PySem.W.Frag) (H : Hp) : List (D × D) → List (V × V) → Prop
  | [], vs => vs = []
  | p :: ds, vs => ∃ v w r, vs = (v, w) :: r ∧ Rep K H p.1 v ∧ Rep K H p.2 w ∧ PReps K H ds r
theorem lp_pairs {K : PySem.W.Frag} : ∀ (trs : List (DTE × DTE)) (σD : DS) (h : DH) (σ : St) (H : Hp) (QD : List (D × D) → DH → Prop) (Q : List (V × V) → Hp → Prop), RS K σD h σ H → dPairs trs σD h QD →
    (∀ ps h' H' vps, QD ps h' → RS K σD h' σ H' → PReps K H' ps vps → Keep h H h' H' → Q vps H') → tPairs (trs.map fun t => (LE K t.1, LE K t.2)) σ H Q
  | [], σD, h, σ, H, QD, Q, rs, q, f => f [] h H [] q rs rfl .refl
  | (tk, tv) :: r, σD, h, σ, H, QD, Q, rs, q, f => by
    refine ⟨σD, h, _, rs, q, fun d1 h1 v1 H1 q1 rs1 r1 k1 => ⟨σD, h1, _, rs1, q1, fun d2 h2 v2 H2 q2 rs2 r2 k2 => ?_⟩⟩
    refine lp_pairs r σD h2 σ H2 _ _ rs2 q2 fun ps h' H' vps q3 rs3 r3 k3 => ?_
    exact f _ h' H' _ q3 rs3 ⟨v1, v2, vps, rfl, r1.mono ((k2.trans k3).tup rs1.hr), r2.mono (k3.tup rs2.hr), r3⟩ (k1.trans (k2.trans k3))
def keysD : List (D × D) → Option (List (Key × D))
  | [] => some []
  | (x, y) :: r => match keyD x, keysD r with
    | some k, some kvs => some ((k, y) :: kvs)
    | _, _ => none
theorem keysD_rep {K : PySem.W.Frag} {H : Hp} : ∀ {ps : List (D × D)} {vps : List (V × V)} {kvs : List (Key × D)}, keysD ps = some kvs → PReps K H ps vps → ∃ vvs, KReps K H kvs vvs ∧ vps = vvs.map (fun kv => (kV kv.1, kv.2)) ∧ vvs.length = kvs.length
  | [], _, _, e, r => by
    cases e
    have r' : _ = [] := r
    subst r'
    exact ⟨[], rfl, rfl, rfl⟩
  | (x, y) :: ps, _, kvs, e, r => by
    obtain ⟨v, w, r', rfl, a, b, c⟩ := r
    unfold keysD at e
    split at e
    · rename_i k kvs' e1 e2
      cases e
      obtain ⟨vvs, k1, rfl, l⟩ := keysD_rep e2 c
      obtain rfl := keyD_rep e1 a
      exact ⟨(k, w) :: vvs, ⟨w, vvs, rfl, b, k1⟩, rfl, by simp [l]⟩
    · cases e
theorem mergeK_self : ∀ (vvs acc : List (Key × V)), ((acc ++ vvs).map (·.1)).Nodup → mergeK acc vvs = acc ++ vvs
  | [], acc, _ => by simp [mergeK]
  | (k, v) :: r, acc, nd => by
    have e : putK acc k v = acc ++ [(k, v)] := by
      refine putK_new v ?_
      have no : k ∉ acc.map (·.1) := by
        intro hm
        rw [List.map_append, List.nodup_append] at nd
        exact nd.2.2 k hm k (by simp) rfl
      induction acc with
      | nil => rfl
      | cons p acc ih =>
        simp only [List.map_cons, List.mem_cons, not_or] at no
        rw [valV_neg (fun e => no.1 e.symm)]
        refine ih ?_ no.2
        simp only [List.cons_append, List.map_cons, List.nodup_cons] at nd
        exact nd.2
    show mergeK (putK acc k v) r = _
    rw [e, mergeK_self r (acc ++ [(k, v)]) (by simpa using nd)]
    simp
def dDisp (trs : List (DTE × DTE)) : DTE := fun σ h Q => dPairs trs σ h fun ps h1 => match keysD ps with
  | some kvs => kvs.length ≤ 15 ∧ (kvs.map (·.1)).Nodup ∧ ∀ p, h1 p = none → Q (.ref p) (updD h1 p (.dct kvs))
  | none => False
inductive DPs (X : Cx) (pos : Pos) : List (Option Expr) → List Expr → List (DTE × DTE) → Prop
  | nil : DPs X pos [] [] []
  | cons {k v : Expr} {ks : List (Option Expr)} {vs : List Expr} {tk tv : DTE} {trs : List (DTE × DTE)} : DE X k tk → DE X v tv → DPs X pos ks vs trs → DPs X pos (some k :: ks) (v :: vs) ((tk, tv) :: trs)
theorem DPs.pps {X : Cx} {pos : Pos} {ks : List (Option Expr)} {vs : List Expr} {trs : List (DTE × DTE)} (d : DPs X pos ks vs trs) : PPs X pos ks vs (trs.map fun t => (LE X.K t.1, LE X.K t.2)) := by
  induction d with
  | nil => exact pps_nil
  | cons a b _ ih => exact pps_cons a b ih
theorem RS.at2 {K : PySem.W.Frag} {σD : DS} {h : DH} {σ : St} {H : Hp} {p : Addr} {o : DO} {u : HO} (rs : RS K σD h σ H) (e : H p = some u) (r : HOR K H o u) : RS K σD (updD h p o) σ H := ⟨rs.sl, fun a o z => by
  by_cases ea : a = p
  · subst ea
    rw [updD_same] at z; cases z
    exact ⟨_, e, r⟩
  · rw [updD_ne ea] at z
    exact rs.hr a o z⟩
theorem tupMono_dk {H : Hp} {p : Addr} {u : HO} {vs : List (Key × V)} (e : H p = some (.dK vs)) : TupMono H (upd H p u) := fun a w q f => by
  by_cases ea : a = p
  · subst ea; rw [e] at q; cases q; exact f.elim
  · rw [upd_ne ea]; exact q
theorem de_disp {X : Cx} {pos : Pos} {ks : List (Option Expr)} {vs : List Expr} {trs : List (DTE × DTE)} (d : DPs X pos ks vs trs) (hall : ks.all (·.isSome) = true := by rfl) (hl : ks.length = vs.length := by rfl) (h0 : ks ≠ [] := by simp) (h15 : ks.length ≤ 15 := by decide) :
    DE X (.Dict ks vs pos) (dDisp trs) := (pe_disp d.pps hall hl h0 h15).imp fun σ H Q ⟨σD, h, QD, rs, q, p⟩ => by
  intro a n
  have hn : h a = none := by
    cases e : h a with
    | none => rfl
    | some o => obtain ⟨u, hu, _⟩ := rs.hr a o e; rw [n] at hu; cases hu
  refine lp_pairs trs σD h σ _ _ _ (rs.hid n) q fun ps h' H' vps q1 rs1 r1 k1 => ?_
  obtain ⟨e1, e2⟩ := k1 a (.dK []) (by rw [upd_same]) hn
  refine ⟨e1, ?_⟩
  cases e3 : keysD ps with
  | none => rw [e3] at q1; exact q1.elim
  | some kvs =>
    rw [e3] at q1
    obtain ⟨l15, nd, q1⟩ := q1
    obtain ⟨vvs, kr, ev, lv⟩ := keysD_rep e3 r1
    refine ⟨vvs, ev, by rw [lv]; exact l15, ?_⟩
    rw [mergeK_self vvs [] (by rw [List.nil_append, kr.keys]; exact nd), List.nil_append]
    have tm : TupMono H' (upd H' a (.dK vvs)) := tupMono_dk e1
    have rs2 : RS X.K σD h' σ (upd H' a (.dK vvs)) := ⟨rs1.sl.mono tm, fun b o z => by
      have nb : b ≠ a := by rintro rfl; rw [e2] at z; cases z
      obtain ⟨u, hu, ho⟩ := rs1.hr b o z
      exact ⟨u, by rw [upd_ne nb]; exact hu, ho.mono tm⟩⟩
    refine p _ _ _ _ (q1 a e2) (rs2.at2 upd_same (kr.mono tm)) (by simp [Rep]) ?_
    intro b o z nb
    have ne : b ≠ a := by rintro rfl; rw [n] at z; cases z
    obtain ⟨x1, x2⟩ := k1 b o (by rw [upd_ne ne]; exact z) nb
    exact ⟨by rw [upd_ne ne]; exact x1, by rw [updD_ne ne]; exact x2⟩
end DL

namespace DL
open PySem PySem.Spec L2
open PyProof.Rows hiding St

theorem u1 {k : Nat} {A : Around} (r : Room k A) : A.units + 1 < cLine := by have := r.un; omega
theorem u65 {k : Nat} {A : Around} (r : Room k A) : A.units + 65 < cLine := by have := r.un; omega
/-! ### zip of three -/
def Itz3 (K : PySem.W.Frag) (t1 t2 t3 : Bool) (a b c : Addr) : It :=
  ⟨fun i H => ∃ (xs ys zs : List V) (x y u : V), SqS K H t1 a xs ∧ SqS K H t2 b ys ∧ SqS K H t3 c zs ∧ xs[i]? = some x ∧ ys[i]? = some y ∧ zs[i]? = some u,
    fun i H v H' => ∃ T x y u, v = .ref T ∧ H T = none ∧ H' = upd H T (.tup [x, y, u]) ∧ (∀ xs, SqS K H t1 a xs → xs[i]? = some x) ∧ (∀ ys, SqS K H t2 b ys → ys[i]? = some y) ∧ ∀ zs, SqS K H t3 c zs → zs[i]? = some u,
    fun i H => ∃ xs ys zs : List V, SqS K H t1 a xs ∧ SqS K H t2 b ys ∧ SqS K H t3 c zs ∧ i = min (min xs.length ys.length) zs.length⟩
theorem turn_zip3 {P : Program} {w : World} {K : PySem.W.Frag} {elts : List Expr} {kk : Nat} {tpos : Pos} {t1 t2 t3 : Bool} {a b d z TI TO i1 i2 i3 : Addr} (S : ZipSep3 z TI TO i1 i2 i3 [i1, a] [i2, b] [i3, d]) (n1 : a ≠ i1) (n2 : b ≠ i2) (n3 : d ≠ i3) :
    Turn P w K (.Tuple elts kk tpos) (Itz3 K t1 t2 t3 a b d) [z, TI, TO, i1, i2, i3] z (fun i h => IsZip h z TI TO .none ∧ IsTupOf3 h TI (.ref i1) (.ref i2) (.ref i3) ∧ (∃ a1 a2 a3, IsTupOf3 h TO a1 a2 a3) ∧ IterAt h t1 i1 a i ∧ IterAt h t2 i2 b i ∧ IterAt h t3 i3 d i) where
  mem := by simp
  obj := fun i h st c hc => by
    obtain ⟨hz, hTI, ⟨x, y, u, hTO⟩, h1, h2, h3⟩ := st
    have e' : c = z ∨ c = TI ∨ c = TO ∨ c = i1 ∨ c = i2 ∨ c = i3 := by simpa using hc
    rcases e' with q | q | q | q | q | q
    · rw [q]; exact ⟨_, hz, fun v q => nomatch q⟩
    · rw [q]; exact ⟨_, hTI, fun v q => nomatch q⟩
    · rw [q]; exact ⟨_, hTO, fun v q => nomatch q⟩
    · rw [q]; exact h1.obj
    · rw [q]; exact h2.obj
    · rw [q]; exact h3.obj
  keep := fun i h h' st k => by
    obtain ⟨hz, hTI, ⟨x, y, u, hTO⟩, h1, h2, h3⟩ := st
    exact ⟨k z (by simp) _ hz, k TI (by simp) _ hTI, ⟨x, y, u, k TO (by simp) _ hTO⟩, h1.at' fun o q => k i1 (by simp) o q, h2.at' fun o q => k i2 (by simp) o q, h3.at' fun o q => k i3 (by simp) o q⟩
  item := by
    intro X hP hw hK hc i pins s σ H E I hf st hg
    subst hP hw hK
    obtain ⟨hz, hTI, hTO, h1, h2, h3⟩ := id st
    obtain ⟨xs, ys, zs, x, y, q3, hqx, hqy, hqz, hx, hy, hzz⟩ := hg
    obtain ⟨its, rv, p, _, _⟩ := inv_s I hqx
    obtain ⟨its2, rv2, p2, _, _⟩ := inv_s I hqy
    obtain ⟨its3, rv3, p3, _, _⟩ := inv_s I hqz
    obtain ⟨u, hu, ru⟩ := rv.get hx
    obtain ⟨u2, hu2, ru2⟩ := rv2.get hy
    obtain ⟨u3, hu3, ru3⟩ := rv3.get hzz
    have hh : X.A.in1.handled = none := I.ok.hd hc
    have G := GoesN.zip3 (prog := X.prog) (w := X.w) (A := X.A) (elts := elts) (x1 := kk) (pos := tpos) S (draws_s hh t1 i1 a n1 its.toArray) (draws_s hh t2 i2 b n2 its2.toArray) (draws_s hh t3 i3 d n3 its3.toArray)
    have hlt : i < min (min its.toArray.size its2.toArray.size) its3.toArray.size := by
      have l1 := (List.getElem?_eq_some_iff.mp hu).1
      have l2 := (List.getElem?_eq_some_iff.mp hu2).1
      have l3 := (List.getElem?_eq_some_iff.mp hu3).1
      simp; omega
    refine wpAny_mono (G.goes i s (fun v s2 => ∃ x H', Inv X pins σ H' s2 ∧ RelV x v ∧ (Itz3 X.K t1 t2 t3 a b d).yld i H x H' ∧
      (IsZip s2.heap z TI TO .none ∧ IsTupOf3 s2.heap TI (.ref i1) (.ref i2) (.ref i3) ∧ (∃ a1 a2 a3, IsTupOf3 s2.heap TO a1 a2 a3) ∧ IterAt s2.heap t1 i1 a (i + 1) ∧ IterAt s2.heap t2 i2 b (i + 1) ∧ IterAt s2.heap t3 i3 d (i + 1)) ∧
      ∀ c ∈ [z, TI, TO, i1, i2, i3], H' c = none) E hlt ⟨hz, hTI, hTO, ⟨h1, p⟩, ⟨h2, p2⟩, h3, p3⟩ fun v h' tk Y st' old htk => ?_) (fun r s1 ⟨v, e, q⟩ => ⟨v, e, q⟩) fun _ _ e => e
    obtain ⟨T, v1, v2, v3, rfl, hT, e1, e2, e3, hTT⟩ := Y
    obtain ⟨hz', hTI', hTO', ⟨h1', _⟩, ⟨h2', _⟩, h3', _⟩ := st'
    obtain rfl : v1 = u := by simpa [hu] using e1.symm
    obtain rfl : v2 = u2 := by simpa [hu2] using e2.symm
    obtain rfl : v3 = u3 := by simpa [hu3] using e3.symm
    have new : ObjOk X.prog X.w (upd H T (.tup [x, y, q3])) h' T (.tup [x, y, q3]) := ⟨by show 3 ≤ sizeLine; decide, [v1, v2, v3], .cons ru (.cons ru2 (.cons ru3 .nil)), hTT⟩
    have I1 : Inv X pins σ (upd H T (.tup [x, y, q3])) { s with heap := h', toks := tk } :=
      I.turnedNew (t' := tk) (ch := [z, TI, TO, i1, i2, i3]) (fun c o hb q => old c o (fun q' => hb (by simp at q' ⊢; rcases q' with q' | q' | q' | q' | q' <;> simp [q'])) q) hf hT new
    refine ⟨.ref T, _, I1, rfl, ⟨T, x, y, q3, rfl, I.hok.fresh hT, rfl, fun l hl => by rw [inv_inj I hl hqx]; exact hx, fun l hl => by rw [inv_inj I hl hqy]; exact hy, fun l hl => by rw [inv_inj I hl hqz]; exact hzz⟩, ⟨hz', hTI', hTO', h1', h2', h3'⟩, fun c hcm => ?_⟩
    have hlt : c < s.heap.objs.size := by
      have e' : c = z ∨ c = TI ∨ c = TO ∨ c = i1 ∨ c = i2 ∨ c = i3 := by simpa using hcm
      rcases e' with q | q | q | q | q | q
      · rw [q]; exact Heap.lt_size hz
      · rw [q]; exact Heap.lt_size hTI
      · rw [q]; obtain ⟨_, _, _, q⟩ := hTO; exact Heap.lt_size q
      · rw [q]; obtain ⟨_, e1, _⟩ := h1.obj; exact Heap.lt_size e1
      · rw [q]; obtain ⟨_, e2, _⟩ := h2.obj; exact Heap.lt_size e2
      · rw [q]; obtain ⟨_, e3, _⟩ := h3.obj; exact Heap.lt_size e3
    rw [upd_ne (Nat.ne_of_lt (Nat.lt_of_lt_of_le hlt hT))]
    exact (hf c hcm).1
  done := by
    intro X hP hw hK hc i pins s σ H E I hf st hg
    subst hP hw hK
    obtain ⟨hz, hTI, hTO, h1, h2, h3⟩ := id st
    obtain ⟨xs, ys, zs, hqx, hqy, hqz, hend⟩ := hg
    obtain ⟨its, rv, p, _, _⟩ := inv_s I hqx
    obtain ⟨its2, rv2, p2, _, _⟩ := inv_s I hqy
    obtain ⟨its3, rv3, p3, _, _⟩ := inv_s I hqz
    have l1 := rv.length
    have l2 := rv2.length
    have l3 := rv3.length
    have hh : X.A.in1.handled = none := I.ok.hd hc
    have G := GoesN.zip3 (prog := X.prog) (w := X.w) (A := X.A) (elts := elts) (x1 := kk) (pos := tpos) S (draws_s hh t1 i1 a n1 its.toArray) (draws_s hh t2 i2 b n2 its2.toArray) (draws_s hh t3 i3 d n3 its3.toArray)
    have e : min (min its.toArray.size its2.toArray.size) its3.toArray.size = i := by simp; omega
    refine G.stops s (fun s1 => Inv X pins σ H s1) E (by rw [e]; exact ⟨hz, hTI, hTO, ⟨h1, p⟩, ⟨h2, p2⟩, h3, p3⟩) fun h' tk old _ => ?_
    exact I.turnedL (t' := tk) (ch := [z, TI, TO, i1, i2, i3]) (fun c o hb q => old c o (fun q' => hb (by simp at q' ⊢; rcases q' with q' | q' | q' | q' | q' <;> simp [q'])) q) hf
  self := fun A i s Q E st h => wpAny_pyIter_zip st.1 h
def iZip3 (K : PySem.W.Frag) (ta : TA) : TI := fun σ H R => ta σ H fun vs H1 => ∃ a b c t1 t2 t3, vs = [.ref a, .ref b, .ref c] ∧ (∃ xs, SqS K H1 t1 a xs) ∧ (∃ ys, SqS K H1 t2 b ys) ∧ (∃ zs, SqS K H1 t3 c zs) ∧ R (Itz3 K t1 t2 t3 a b c) H1
theorem pi_zip3 {X : Cx} {e e2 e3 : Expr} {ta : TA} {p pos tpos : Pos} {elts : List Expr} {kk : Nat} (hg : Gl X "zip") (hm : X.mg "zip" = none) (ha : PA X [e, e2, e3] ta)
    (hs : starEach [e, e2, e3] X.env = (false, eval e X.env) :: starEach [e2, e3] X.env := by rfl) (hpl : (backTo pos (starEach [e2, e3] X.env)).any (·.1) = false := by rfl) :
    PI X (.Tuple elts kk tpos) (.Call (.Name "zip" p) [e, e2, e3] [] pos) (iZip3 X.K ta) := by
  refine ⟨fun pins s σ H R I h => ?_⟩
  refine Call_ (ld_blt I hg hm PyProof.Rows.boot_zip (PyProof.Rows.callWith_type1 (thn (ha.run pos pins s σ H _ I h) fun us s1 ⟨vs, H1, I1, r1, q1⟩ => ?_) hs hpl))
  obtain ⟨a, b, d, t1, t2, t3, ex, ⟨xs, hqx⟩, ⟨ys, hqy⟩, ⟨zs, hqz⟩, q⟩ := q1
  subst ex
  obtain ⟨its, rv, p1, _, la⟩ := inv_s I1 hqx
  obtain ⟨its2, rv2, p2, _, lb⟩ := inv_s I1 hqy
  obtain ⟨its3, rv3, p3, _, ld⟩ := inv_s I1 hqz
  cases r1 with
  | cons r rr =>
    cases rr with
    | cons r' rr =>
      cases rr with
      | cons r'' rr =>
        cases rr
        cases r
        cases r'
        cases r''
        refine zip_begins3 (begins_s t1 a its.toArray) (begins_s t2 b its2.toArray) (begins_s t3 d its3.toArray) p1 p2 p3 fun h' hz hTI hTO h1 h2 h3 hsz hk => wpAny_pyIter_zip hz ?_
        have I2 : Inv X pins σ H1 { s1 with heap := h' } := I1.kept (t' := s1.toks) hk
        refine ⟨s1.heap.objs.size + 5, [s1.heap.objs.size + 5, s1.heap.objs.size + 3, s1.heap.objs.size + 4, s1.heap.objs.size, s1.heap.objs.size + 1, s1.heap.objs.size + 2], _, _, H1, rfl, I2,
          turn_zip3 (t1 := t1) (t2 := t2) (t3 := t3) (zip_sep3 (fp1 := [a]) (fp2 := [b]) (fp3 := [d]) (by simpa using la) (by simpa using lb) (by simpa using ld)) (Nat.ne_of_lt la) (Nat.ne_of_lt (Nat.lt_succ_of_lt lb)) (Nat.ne_of_lt (Nat.lt_succ_of_lt (Nat.lt_succ_of_lt ld))), ⟨hz, hTI, ⟨_, _, _, hTO⟩, iterAt_mk h1, iterAt_mk h2, iterAt_mk h3⟩, fun c hcm => ?_, q⟩
        have e' : c = s1.heap.objs.size + 5 ∨ c = s1.heap.objs.size + 3 ∨ c = s1.heap.objs.size + 4 ∨ c = s1.heap.objs.size ∨ c = s1.heap.objs.size + 1 ∨ c = s1.heap.objs.size + 2 := by simpa using hcm
        have hle : s1.heap.objs.size ≤ c := by
          rcases e' with z | z | z | z | z | z
          · rw [z]; exact Nat.le_add_right _ _
          · rw [z]; exact Nat.le_add_right _ _
          · rw [z]; exact Nat.le_add_right _ _
          · rw [z]; exact Nat.le_refl _
          · rw [z]; exact Nat.le_add_right _ _
          · rw [z]; exact Nat.le_add_right _ _
        exact I1.fpOk hle (I1.hok.fresh hle)
def zipD3 : List D → List D → List D → List D
  | x :: xs, y :: ys, z :: zs => .tup [x, y, z] :: zipD3 xs ys zs
  | _, _, _ => []
theorem zipD3_len : ∀ (xs ys zs : List D), (zipD3 xs ys zs).length = min (min xs.length ys.length) zs.length
  | [], _, _ => by simp [zipD3]
  | _ :: _, [], _ => by simp [zipD3]
  | _ :: _, _ :: _, [] => by simp [zipD3]
  | _ :: xs, _ :: ys, _ :: zs => by simp [zipD3, zipD3_len xs ys zs]
theorem zipD3_get : ∀ {xs ys zs : List D} {i : Nat} {x y z : D}, xs[i]? = some x → ys[i]? = some y → zs[i]? = some z → (zipD3 xs ys zs)[i]? = some (.tup [x, y, z])
  | [], _, _, _, _, _, _, e, _, _ => by simp at e
  | _ :: _, [], _, _, _, _, _, _, e, _ => by simp at e
  | _ :: _, _ :: _, [], _, _, _, _, _, _, e => by simp at e
  | x :: xs, y :: ys, z :: zs, 0, _, _, _, e1, e2, e3 => by simp at e1 e2 e3; subst e1; subst e2; subst e3; simp [zipD3]
  | x :: xs, y :: ys, z :: zs, i + 1, _, _, _, e1, e2, e3 => by
    simp only [zipD3, List.getElem?_cons_succ]
    exact zipD3_get (by simpa using e1) (by simpa using e2) (by simpa using e3)
theorem zipD3_some : ∀ {xs ys zs : List D} {i : Nat} {d : D}, (zipD3 xs ys zs)[i]? = some d → ∃ x y z, xs[i]? = some x ∧ ys[i]? = some y ∧ zs[i]? = some z ∧ d = .tup [x, y, z]
  | [], _, _, _, _, e => by simp [zipD3] at e
  | _ :: _, [], _, _, _, e => by simp [zipD3] at e
  | _ :: _, _ :: _, [], _, _, e => by simp [zipD3] at e
  | x :: xs, y :: ys, z :: zs, 0, d, e => by simp [zipD3] at e; exact ⟨x, y, z, rfl, rfl, rfl, e.symm⟩
  | x :: xs, y :: ys, z :: zs, i + 1, d, e => by
    simp only [zipD3, List.getElem?_cons_succ] at e
    obtain ⟨a, b, c, h1, h2, h3, h4⟩ := zipD3_some e
    exact ⟨a, b, c, by simpa using h1, by simpa using h2, by simpa using h3, h4⟩
theorem rep_trip {K : PySem.W.Frag} {H : Hp} {T : Addr} {x y z : V} {dx dy dz : D} (n : H T = none) (rx : Rep K H dx x) (ry : Rep K H dy y) (rz : Rep K H dz z) : Rep K (upd H T (.tup [x, y, z])) (.tup [dx, dy, dz]) (.ref T) :=
  rep_tup_mk n (by unfold Reps; exact ⟨x, _, rfl, rx, by unfold Reps; exact ⟨y, _, rfl, ry, by unfold Reps; exact ⟨z, _, rfl, rz, by simp [Reps]⟩⟩⟩)
theorem walk_zip3 {K : PySem.W.Frag} {t1 t2 t3 : Bool} {a b c : Addr} {ds es fs : List D} {st1 st2 st3 : DH → Prop} {H1 : Hp} (S1 : Src K t1 a ds st1 H1) (S2 : Src K t2 b es st2 H1) (S3 : Src K t3 c fs st3 H1) : DWalk K (Itz3 K t1 t2 t3 a b c) (zipD3 ds es fs) (fun h => st1 h ∧ st2 h ∧ st3 h) H1 where
  go := fun i h H hi r st tm => by
    obtain ⟨vs, s, q⟩ := S1.at' h H r st.1 tm
    obtain ⟨ws, s', q'⟩ := S2.at' h H r st.2.1 tm
    obtain ⟨us, s'', q''⟩ := S3.at' h H r st.2.2 tm
    rw [zipD3_len] at hi
    have h1 : i < vs.length := by rw [← q.len]; omega
    have h2 : i < ws.length := by rw [← q'.len]; omega
    have h3 : i < us.length := by rw [← q''.len]; omega
    exact ⟨vs, ws, us, vs[i], ws[i], us[i], s, s', s'', by simp [h1], by simp [h2], by simp [h3]⟩
  stop := fun h H r st tm => by
    obtain ⟨vs, s, q⟩ := S1.at' h H r st.1 tm
    obtain ⟨ws, s', q'⟩ := S2.at' h H r st.2.1 tm
    obtain ⟨us, s'', q''⟩ := S3.at' h H r st.2.2 tm
    exact ⟨vs, ws, us, s, s', s'', by rw [zipD3_len, q.len, q'.len, q''.len]⟩
  yld := fun i h H x H' hi r st tm y => by
    obtain ⟨vs, s, q⟩ := S1.at' h H r st.1 tm
    obtain ⟨ws, s', q'⟩ := S2.at' h H r st.2.1 tm
    obtain ⟨us, s'', q''⟩ := S3.at' h H r st.2.2 tm
    obtain ⟨T, x, y, u, rfl, n, rfl, y1, y2, y3⟩ := y
    obtain ⟨d, e, rd⟩ := q.get' (y1 vs s)
    obtain ⟨d', e', rd'⟩ := q'.get' (y2 ws s')
    obtain ⟨d'', e'', rd''⟩ := q''.get' (y3 us s'')
    refine ⟨_, zipD3_get e e' e'', rep_trip n rd rd' rd'', r.hid n, fun c o z => ?_⟩
    rw [upd_ne (ne_of_none z n)]
    exact z
def dZip3 (ta : DTA) : DTI := fun σ h R => ta σ h fun ds h1 => match ds with
  | [d, e, f] => match srcD h1 d, srcD h1 e, srcD h1 f with
    | some (xs, st1), some (ys, st2), some (zs, st3) => R (zipD3 xs ys zs) (fun h => st1 h ∧ st2 h ∧ st3 h) h1
    | _, _, _ => False
  | _ => False
theorem di_zip3 {X : Cx} {e e2 e3 : Expr} {ta : DTA} {p pos tpos : Pos} {elts : List Expr} {kk : Nat} (hg : Gl X "zip") (hm : X.mg "zip" = none) (ha : DA X [e, e2, e3] ta) (hs : starEach [e, e2, e3] X.env = (false, eval e X.env) :: starEach [e2, e3] X.env := by rfl) (hpl : (backTo pos (starEach [e2, e3] X.env)).any (·.1) = false := by rfl) :
    DI X (.Tuple elts kk tpos) (.Call (.Name "zip" p) [e, e2, e3] [] pos) (dZip3 ta) := (pi_zip3 hg hm ha hs hpl).imp fun σ H R ⟨σD, h, RD, rs, q, p⟩ => by
  refine ⟨σD, h, _, rs, q, fun ds h1 vs H1 q1 rs1 r1 k1 => ?_⟩
  split at q1
  · rename_i d e f
    split at q1
    · rename_i xs st1 ys st2 zs st3 e1 e2 e3
      obtain ⟨v, w, u, rfl, rv, rw, ru⟩ := reps_three r1
      obtain ⟨a, t1, rfl, hx, S1⟩ := src_of rs1.hr e1 rv
      obtain ⟨b, t2, rfl, hy, S2⟩ := src_of rs1.hr e2 rw
      obtain ⟨c, t3, rfl, hz, S3⟩ := src_of rs1.hr e3 ru
      exact ⟨a, b, c, t1, t2, t3, rfl, hx, hy, hz, p _ _ h1 _ H1 q1 rs1 k1 (walk_zip3 S1 S2 S3)⟩
    · exact q1.elim
  · exact q1.elim
end DL

namespace K03
/-- equal up to p -/
def Eqp (p a b : Int) : Prop := ∃ k, a = b + p * k
theorem Eqp.refl (p a : Int) : Eqp p a a := ⟨0, by simp⟩
theorem Eqp.rfl' {p a b : Int} (e : a = b) : Eqp p a b := ⟨0, by simp [e]⟩
theorem Eqp.symm {p a b : Int} (h : Eqp p a b) : Eqp p b a := by obtain ⟨k, e⟩ := h; exact ⟨-k, by grind⟩
theorem Eqp.trans {p a b c : Int} (h : Eqp p a b) (g : Eqp p b c) : Eqp p a c := by obtain ⟨k, e⟩ := h; obtain ⟨l, f⟩ := g; exact ⟨k + l, by grind⟩
theorem Eqp.add {p a b c d : Int} (h : Eqp p a b) (g : Eqp p c d) : Eqp p (a + c) (b + d) := by obtain ⟨k, e⟩ := h; obtain ⟨l, f⟩ := g; exact ⟨k + l, by grind⟩
theorem Eqp.mul {p a b c d : Int} (h : Eqp p a b) (g : Eqp p c d) : Eqp p (a * c) (b * d) := by obtain ⟨k, e⟩ := h; obtain ⟨l, f⟩ := g; exact ⟨b * l + k * d + p * k * l, by grind⟩
theorem Eqp.md (p a : Int) : Eqp p (a % p) a := ⟨-(a / p), by have := Int.emod_add_mul_ediv a p; grind⟩
theorem Eqp.mod {p a b : Int} (h : Eqp p a b) : a % p = b % p := by obtain ⟨k, e⟩ := h; rw [e]; exact Int.add_mul_emod_self_left b p k
theorem Eqp.of_mod {p a b : Int} (h : a % p = b % p) : Eqp p a b := ((Eqp.md p a).symm.trans (.rfl' h)).trans (Eqp.md p b)
theorem Eqp.lift {p a b : Int} (h : Eqp p a b) (ha : 0 ≤ a) (hp : a < p) : b % p = a := by rw [← h.mod]; exact Int.emod_eq_of_lt ha hp

/-- the weights, from c -/
def W (p : Int) : Int → List Int → List Int
  | c, [] => [c]
  | c, x :: xs => W p (c * (1 - x) % p) xs ++ W p (c * x % p) xs
theorem W_len (p : Int) : ∀ (xs : List Int) (c : Int), (W p c xs).length = 2 ^ xs.length
  | [], c => rfl
  | x :: xs, c => by simp [W, W_len p xs, Nat.pow_succ]; omega
theorem W_rng {p : Int} (hp : 0 < p) : ∀ (xs : List Int) (c : Int), 0 ≤ c → c < p → ∀ w ∈ W p c xs, 0 ≤ w ∧ w < p
  | [], c, h0, h1, w, hw => by simp [W] at hw; subst hw; exact ⟨h0, h1⟩
  | x :: xs, c, h0, h1, w, hw => by
    simp [W] at hw
    rcases hw with hw | hw
    · exact W_rng hp xs _ (Int.emod_nonneg _ (by omega)) (Int.emod_lt_of_pos _ hp) w hw
    · exact W_rng hp xs _ (Int.emod_nonneg _ (by omega)) (Int.emod_lt_of_pos _ hp) w hw
/-- one turn of the weights -/
def wst (p : Int) (ws : List Int) (x : Int) : List Int := ws.flatMap fun w => [w * (1 - x) % p, w * x % p]
theorem wst_len (p : Int) (ws : List Int) (x : Int) : (wst p ws x).length = 2 * ws.length := by
  induction ws with
  | nil => rfl
  | cons w ws ih => simp only [wst, List.flatMap_cons, List.length_append] at *; simp only [List.length_cons, List.length_nil]; omega
theorem W_fold (p : Int) : ∀ (xs ws : List Int), xs.foldl (wst p) ws = ws.flatMap fun c => W p c xs
  | [], ws => by simp [W]
  | x :: xs, ws => by
    simp only [List.foldl_cons, W_fold p xs, wst, List.flatMap_assoc]
    simp [W]
theorem W_one (p : Int) (xs : List Int) : xs.foldl (wst p) [1] = W p 1 xs := by simp [W_fold]
/-- a weight by its bits, from c -/
def lw (p : Int) : Int → List Int → List Int → Int
  | c, b :: bs, x :: xs => lw p (c * (if b = 1 then x else 1 - x) % p) bs xs
  | c, _, _ => c
/-- the bits of an index, the highest first -/
def lbits (i n : Nat) : List Int := (List.range n).map fun at' => ((i / 2 ^ (n - 1 - at') % 2 : Nat) : Int)
theorem lbits_succ (i n : Nat) : lbits i (n + 1) = ((i / 2 ^ n % 2 : Nat) : Int) :: lbits i n := by
  simp only [lbits, List.range_succ_eq_map, List.map_cons, List.map_map]
  simp
  intro a ha
  rw [show n - (a + 1) = n - 1 - a by omega]
theorem lbits_len (i n : Nat) : (lbits i n).length = n := by simp [lbits]
theorem lbits_rng (i n : Nat) : ∀ b ∈ lbits i n, 0 ≤ b ∧ b < 2 := by
  intro b hb
  simp only [lbits, List.mem_map, List.mem_range] at hb
  obtain ⟨a, _, rfl⟩ := hb
  have := Nat.mod_lt (i / 2 ^ (n - 1 - a)) (show 0 < 2 by decide)
  omega
theorem lbits_add (i n k : Nat) (h : n ≤ k) : lbits (i + 2 ^ k) n = lbits i n := by
  simp only [lbits]
  apply List.map_congr_left
  intro a ha
  have ha' : a < n := List.mem_range.mp ha
  obtain ⟨d, hd⟩ : ∃ d, k = (n - 1 - a) + (d + 1) := ⟨k - (n - 1 - a) - 1, by omega⟩
  have : (2 : Nat) ^ k = 2 ^ (n - 1 - a) * (2 * 2 ^ d) := by rw [hd, Nat.pow_add, Nat.pow_succ]; rw [Nat.mul_comm (2 ^ d) 2]
  rw [this, Nat.add_mul_div_left _ _ (Nat.two_pow_pos _)]
  rw [Nat.add_mul_mod_self_left]
theorem W_get (p : Int) : ∀ (xs : List Int) (c : Int) (i : Nat), i < 2 ^ xs.length → (W p c xs)[i]? = some (lw p c (lbits i xs.length) xs)
  | [], c, i, h => by
    obtain rfl : i = 0 := by simpa using h
    simp [W, lw]
  | x :: xs, c, i, h => by
    simp only [List.length_cons, lbits_succ, lw, W]
    simp only [List.length_cons, Nat.pow_succ] at h
    by_cases hi : i < 2 ^ xs.length
    · rw [List.getElem?_append_left (by rw [W_len]; exact hi), W_get p xs _ i hi]
      have : i / 2 ^ xs.length = 0 := Nat.div_eq_of_lt hi
      simp [this]
    · have e : i = (i - 2 ^ xs.length) + 2 ^ xs.length := by omega
      rw [List.getElem?_append_right (by rw [W_len]; omega), W_len, W_get p xs _ _ (by omega)]
      have d : i / 2 ^ xs.length % 2 = 1 := by
        have : i / 2 ^ xs.length = 1 := by
          apply Nat.div_eq_of_lt_le <;> omega
        rw [this]
      have lb : lbits i xs.length = lbits (i - 2 ^ xs.length) xs.length := by
        conv => lhs; rw [e]
        exact lbits_add _ _ _ (Nat.le_refl _)
      rw [d, lb]
      simp
theorem W_map (p : Int) (xs : List Int) : (List.range (2 ^ xs.length)).map (fun i => lw p 1 (lbits i xs.length) xs) = W p 1 xs := by
  apply List.ext_getElem?
  intro i
  by_cases hi : i < 2 ^ xs.length
  · rw [W_get p xs 1 i hi]; simp [hi]
  · rw [List.getElem?_eq_none (by simp; omega), List.getElem?_eq_none (by rw [W_len]; omega)]
theorem lw_rng {p : Int} (hp : 0 < p) : ∀ (xs bs : List Int) (c : Int), 0 ≤ c → c < p → 0 ≤ lw p c bs xs ∧ lw p c bs xs < p
  | [], bs, c, h0, h1 => by cases bs <;> exact ⟨h0, h1⟩
  | x :: xs, [], c, h0, h1 => ⟨h0, h1⟩
  | x :: xs, b :: bs, c, h0, h1 => lw_rng hp xs bs _ (Int.emod_nonneg _ (by omega)) (Int.emod_lt_of_pos _ hp)
/-- the sum of a table by weights -/
def dot (ts ws : List Int) : Int := (List.zipWith (fun a b => a * b) ts ws).sum
theorem dot_append {a b c d : List Int} (h : a.length = c.length) : dot (a ++ b) (c ++ d) = dot a c + dot b d := by
  simp only [dot, List.zipWith_append h, List.sum_append]
/-- the multilinear value, exact -/
def E : List Int → List Int → Int
  | t, [] => t.getD 0 0
  | t, x :: xs => (1 - x) * E (t.take (2 ^ xs.length)) xs + x * E (t.drop (2 ^ xs.length)) xs
theorem dot_W (p : Int) : ∀ (xs t : List Int) (c : Int), t.length = 2 ^ xs.length → Eqp p (dot t (W p c xs)) (c * E t xs)
  | [], t, c, h => by
    match t, h with
    | [a], _ => exact .rfl' (by simp [dot, W, E]; exact Int.mul_comm a c)
  | x :: xs, t, c, h => by
    simp only [List.length_cons, Nat.pow_succ] at h
    have h1 : (t.take (2 ^ xs.length)).length = 2 ^ xs.length := by rw [List.length_take]; omega
    have h2 : (t.drop (2 ^ xs.length)).length = 2 ^ xs.length := by rw [List.length_drop]; omega
    have e : dot t (W p c (x :: xs)) = dot (t.take (2 ^ xs.length)) (W p (c * (1 - x) % p) xs) + dot (t.drop (2 ^ xs.length)) (W p (c * x % p) xs) := by
      conv => lhs; rw [← List.take_append_drop (2 ^ xs.length) t, W]
      exact dot_append (by rw [h1, W_len])
    rw [e]
    have a1 := (dot_W p xs _ (c * (1 - x) % p) h1).trans ((Eqp.md p (c * (1 - x))).mul (.refl p (E (t.take (2 ^ xs.length)) xs)))
    have a2 := (dot_W p xs _ (c * x % p) h2).trans ((Eqp.md p (c * x)).mul (.refl p (E (t.drop (2 ^ xs.length)) xs)))
    exact (a1.add a2).trans (.rfl' (by simp only [E]; grind))
theorem E_bits : ∀ (n i : Nat) (t : List Int), t.length = 2 ^ n → i < 2 ^ n → t[i]? = some (E t (lbits i n))
  | 0, i, t, h, hi => by
    match t, h with
    | [a], _ =>
      obtain rfl : i = 0 := by simpa using hi
      simp [lbits, E]
  | n + 1, i, t, h, hi => by
    simp only [Nat.pow_succ] at h hi
    rw [lbits_succ]
    simp only [E, lbits_len]
    by_cases hl : i < 2 ^ n
    · rw [Nat.div_eq_of_lt hl]
      have := E_bits n i (t.take (2 ^ n)) (by rw [List.length_take]; omega) hl
      rw [List.getElem?_take_of_lt hl] at this
      rw [this]
      simp
    · have e : i = (i - 2 ^ n) + 2 ^ n := by omega
      have d : i / 2 ^ n % 2 = 1 := by
        have : i / 2 ^ n = 1 := by apply Nat.div_eq_of_lt_le <;> omega
        rw [this]
      have lb : lbits i n = lbits (i - 2 ^ n) n := by
        conv => lhs; rw [e]
        exact lbits_add _ _ _ (Nat.le_refl _)
      have := E_bits n (i - 2 ^ n) (t.drop (2 ^ n)) (by rw [List.length_drop]; omega) (by omega)
      rw [List.getElem?_drop, show 2 ^ n + (i - 2 ^ n) = i by omega] at this
      rw [this, d, lb]
      simp
/-- likeness, from c -/
def al (p : Int) : Int → List Int → List Int → Int
  | c, x :: xs, y :: ys => al p (c * (x * y + (1 - x) * (1 - y)) % p) xs ys
  | c, _, _ => c
theorem al_rng {p : Int} (hp : 0 < p) : ∀ (xs ys : List Int) (c : Int), 0 ≤ c → c < p → 0 ≤ al p c xs ys ∧ al p c xs ys < p
  | [], ys, c, h0, h1 => by cases ys <;> exact ⟨h0, h1⟩
  | x :: xs, [], c, h0, h1 => ⟨h0, h1⟩
  | x :: xs, b :: bs, c, h0, h1 => al_rng hp xs bs _ (Int.emod_nonneg _ (by omega)) (Int.emod_lt_of_pos _ hp)
def alE : List Int → List Int → Int
  | x :: xs, y :: ys => (x * y + (1 - x) * (1 - y)) * alE xs ys
  | _, _ => 1
theorem al_E (p : Int) : ∀ (xs ys : List Int) (c : Int), Eqp p (al p c xs ys) (c * alE xs ys)
  | [], ys, c => .rfl' (by cases ys <;> simp [al, alE])
  | x :: xs, [], c => .rfl' (by simp [al, alE])
  | x :: xs, y :: ys, c => by
    simp only [al, alE]
    refine (al_E p xs ys _).trans (((Eqp.md p _).mul (.refl p _)).trans (.rfl' (by grind)))
theorem dot_WW (p : Int) : ∀ (xs ys : List Int) (a b : Int), xs.length = ys.length → Eqp p (dot (W p a xs) (W p b ys)) (a * b * alE xs ys)
  | [], [], a, b, _ => .rfl' (by simp [dot, W, alE])
  | x :: xs, y :: ys, a, b, h => by
    simp only [List.length_cons, Nat.add_right_cancel_iff] at h
    simp only [W, alE]
    rw [dot_append (by rw [W_len, W_len, h])]
    have m := Eqp.md p
    have a1 := (dot_WW p xs ys (a * (1 - x) % p) (b * (1 - y) % p) h).trans (((m _).mul (m _)).mul (.refl p _))
    have a2 := (dot_WW p xs ys (a * x % p) (b * y % p) h).trans (((m _).mul (m _)).mul (.refl p _))
    exact (a1.add a2).trans (.rfl' (by grind))
theorem al_dot {p : Int} (hp : 1 < p) {xs ys : List Int} (h : xs.length = ys.length) : dot (W p 1 xs) (W p 1 ys) % p = al p 1 xs ys := by
  have e := (al_E p xs ys 1).trans (dot_WW p xs ys 1 1 h).symm
  have r := al_rng (by omega) xs ys 1 (by omega) hp
  exact e.lift r.1 r.2
/-- a table with its first variable fixed -/
def fx (p x : Int) (ta tb : List Int) : List Int := List.zipWith (fun a b => ((1 - x) * a + x * b) % p) ta tb
theorem fx_E (p x : Int) : ∀ (xs ta tb : List Int), ta.length = 2 ^ xs.length → tb.length = 2 ^ xs.length → Eqp p (E (fx p x ta tb) xs) ((1 - x) * E ta xs + x * E tb xs)
  | [], ta, tb, h1, h2 => by
    match ta, tb, h1, h2 with
    | [a], [b], _, _ => simp [fx, E]; exact Eqp.md p _
  | y :: ys, ta, tb, h1, h2 => by
    simp only [List.length_cons, Nat.pow_succ] at h1 h2
    simp only [E]
    have t1 : (fx p x ta tb).take (2 ^ ys.length) = fx p x (ta.take (2 ^ ys.length)) (tb.take (2 ^ ys.length)) := by simp only [fx, List.take_zipWith]
    have t2 : (fx p x ta tb).drop (2 ^ ys.length) = fx p x (ta.drop (2 ^ ys.length)) (tb.drop (2 ^ ys.length)) := by simp only [fx, List.drop_zipWith]
    rw [t1, t2]
    have a1 := fx_E p x ys (ta.take (2 ^ ys.length)) (tb.take (2 ^ ys.length)) (by rw [List.length_take]; omega) (by rw [List.length_take]; omega)
    have a2 := fx_E p x ys (ta.drop (2 ^ ys.length)) (tb.drop (2 ^ ys.length)) (by rw [List.length_drop]; omega) (by rw [List.length_drop]; omega)
    exact (((Eqp.refl p _).mul a1).add ((Eqp.refl p _).mul a2)).trans (.rfl' (by grind))
/-- the value is affine at every place -/
theorem E_aff (x : Int) (zs : List Int) : ∀ (ys t : List Int), E t (ys ++ x :: zs) = (1 - x) * E t (ys ++ 0 :: zs) + x * E t (ys ++ 1 :: zs)
  | [], t => by simp [E]
  | y :: ys, t => by
    simp only [List.cons_append, E, List.length_append, List.length_cons]
    rw [E_aff x zs ys, E_aff x zs ys (List.drop _ t)]
    grind
/-- p - 1 is its own inverse -/
theorem pow_odd (p : Int) (k : Nat) : Eqp p ((p - 1) ^ (2 * k + 1)) (p - 1) := by
  induction k with
  | zero => exact .rfl' (by simp [Int.pow_succ])
  | succ k ih =>
    have e : (p - 1) ^ (2 * (k + 1) + 1) = (p - 1) ^ (2 * k + 1) * ((p - 1) * (p - 1)) := by
      rw [show 2 * (k + 1) + 1 = 2 * k + 1 + 1 + 1 by omega, Int.pow_succ, Int.pow_succ, Int.mul_assoc]
    rw [e]
    exact (ih.mul (⟨p - 2, by grind⟩ : Eqp p ((p - 1) * (p - 1)) 1)).trans (.rfl' (by simp))
end K03

namespace DL
open PySem PySem.Spec L2
open PyProof.Rows hiding St
def Rng (p : Int) (ns : List Int) : Prop := ∀ x ∈ ns, 0 ≤ x ∧ x < p
def Pp (p : Int) : Prop := 1 < p ∧ p < 4294967296
def BagAt (h : DH) (b : Addr) (b0 b1 b2 : Int) (c : Addr) (cs : List Int) : Prop := h b = some (.lst [.int b0, .int b1, .int b2, .ref c]) ∧ h c = some (.lst (IL cs)) ∧ 0 ≤ b0 ∧ 0 ≤ b1 ∧ b1 < 2147483647 ∧ 0 ≤ b2 ∧ cs.length ≤ 63 ∧ ∀ x ∈ cs, 0 ≤ x
def BagC (h : DH) (b c : Addr) : Prop := ∃ b0 b1 b2 cs, BagAt h b b0 b1 b2 c cs
def BagOk (h : DH) (b : Addr) : Prop := ∃ b0 b1 b2 c cs, BagAt h b b0 b1 b2 c cs
theorem pw_step (p b m : Int) (hm : 0 < m) (f : Int) : K03.Eqp p ((if m % 2 = 1 then f * b % p else f) * (b * b % p) ^ (m / 2).toNat) (f * b ^ m.toNat) := by
  have e : K03.Eqp p ((b * b % p) ^ (m / 2).toNat) ((b * b) ^ (m / 2).toNat) := by
    generalize (m / 2).toNat = k
    induction k with
    | zero => exact .rfl' (by simp)
    | succ k ih => rw [Int.pow_succ, Int.pow_succ]; exact ih.mul (.md _ _)
  by_cases h : m % 2 = 1
  · rw [if_pos h]
    refine ((K03.Eqp.md p (f * b)).mul e).trans (.rfl' ?_)
    have : m.toNat = 2 * (m / 2).toNat + 1 := by omega
    rw [this, Int.pow_succ, Int.pow_mul]
    rw [show b ^ 2 = b * b by rw [Int.pow_succ, Int.pow_succ]; simp]
    grind
  · rw [if_neg h]
    refine ((K03.Eqp.refl p f).mul e).trans (.rfl' ?_)
    have : m.toNat = 2 * (m / 2).toNat := by omega
    rw [this, Int.pow_mul]
    rw [show b ^ 2 = b * b by rw [Int.pow_succ, Int.pow_succ]; simp]
theorem pow_eqp {p a b : Int} (h : K03.Eqp p a b) (k : Nat) : K03.Eqp p (a ^ k) (b ^ k) := by
  induction k with
  | zero => exact .rfl' (by simp)
  | succ k ih => rw [Int.pow_succ, Int.pow_succ]; exact ih.mul h
theorem pw8 {k : Nat} (h : k ≤ 8) : 2 ^ k ≤ 256 := Nat.le_trans (Nat.pow_le_pow_right (by decide) h) (by decide)
theorem IL_get {ns : List Int} {i : Nat} {d : D} (e : (IL ns)[i]? = some d) : ∃ x, ns[i]? = some x ∧ d = .int x := by
  simp only [List.getElem?_map, Option.map_eq_some_iff] at e
  obtain ⟨x, hx, rfl⟩ := e
  exact ⟨x, hx, rfl⟩
theorem Rng.get {p : Int} {ns : List Int} {i : Nat} {x : Int} (r : Rng p ns) (e : ns[i]? = some x) : 0 ≤ x ∧ x < p := r x (List.mem_of_getElem? e)
theorem take_next {α : Type} {xs : List α} {i : Nat} {x : α} (e : xs[i]? = some x) : xs.take (i + 1) = xs.take i ++ [x] := by rw [List.take_add_one, e]; rfl
theorem shr_bit (i n at' : Nat) (h : at' < n) : ((i : Int) / 2 ^ ((n : Int) - 1 - (at' : Int)).toNat) % 2 = ((i / 2 ^ (n - 1 - at') % 2 : Nat) : Int) := by
  have : ((n : Int) - 1 - (at' : Int)).toNat = n - 1 - at' := by omega
  rw [this]; simp
theorem lbits_get {i n k : Nat} (h : k < n) : (K03.lbits i n)[k]? = some ((i / 2 ^ (n - 1 - k) % 2 : Nat) : Int) := by
  simp [K03.lbits, h]
/-- a weight, turn by turn -/
theorem lw_take (p : Int) : ∀ (bs xs : List Int) (c : Int) (i : Nat) (b x : Int), bs[i]? = some b → xs[i]? = some x → K03.lw p c (bs.take (i + 1)) (xs.take (i + 1)) = K03.lw p c (bs.take i) (xs.take i) * (if b = 1 then x else 1 - x) % p
  | [], _, _, _, _, _, h, _ => by simp at h
  | _ :: _, [], _, _, _, _, _, h => by simp at h
  | b :: bs, x :: xs, c, 0, b', x', h1, h2 => by simp at h1 h2; subst h1; subst h2; simp [K03.lw]
  | b :: bs, x :: xs, c, i + 1, b', x', h1, h2 => by
    simp at h1 h2
    have := lw_take p bs xs (c * (if b = 1 then x else 1 - x) % p) i b' x' h1 h2
    simpa [K03.lw] using this
theorem lw_min (p : Int) : ∀ (bs xs : List Int) (c : Int), K03.lw p c (bs.take (min bs.length xs.length)) (xs.take (min bs.length xs.length)) = K03.lw p c bs xs
  | [], xs, c => by simp [K03.lw]
  | b :: bs, [], c => by simp [K03.lw]
  | b :: bs, x :: xs, c => by
    have := lw_min p bs xs (c * (if b = 1 then x else 1 - x) % p)
    simpa [K03.lw, Nat.succ_min_succ] using this
theorem al_take (p : Int) : ∀ (bs xs : List Int) (c : Int) (i : Nat) (b x : Int), bs[i]? = some b → xs[i]? = some x → K03.al p c (bs.take (i + 1)) (xs.take (i + 1)) = K03.al p c (bs.take i) (xs.take i) * (b * x + (1 - b) * (1 - x)) % p
  | [], _, _, _, _, _, h, _ => by simp at h
  | _ :: _, [], _, _, _, _, _, h => by simp at h
  | b :: bs, x :: xs, c, 0, b', x', h1, h2 => by simp at h1 h2; subst h1; subst h2; simp [K03.al]
  | b :: bs, x :: xs, c, i + 1, b', x', h1, h2 => by
    simp at h1 h2
    have := al_take p bs xs (c * (b * x + (1 - b) * (1 - x)) % p) i b' x' h1 h2
    simpa [K03.al] using this
theorem al_min (p : Int) : ∀ (bs xs : List Int) (c : Int), K03.al p c (bs.take (min bs.length xs.length)) (xs.take (min bs.length xs.length)) = K03.al p c bs xs
  | [], xs, c => by simp [K03.al]
  | b :: bs, [], c => by simp [K03.al]
  | b :: bs, x :: xs, c => by
    have := al_min p bs xs (c * (b * x + (1 - b) * (1 - x)) % p)
    simpa [K03.al, Nat.succ_min_succ] using this
theorem enum1 {σ : DS} {h : DH} {R : List D → (DH → Prop) → DH → Prop} {i : Nat} {ds : List D} (hv : σ[i]? = some (some (.tup ds))) (r : R (enumD 0 ds) (fun _ => True) h) : dEnum (dCons (dVar i) dNil) σ h R := by
  simpa [dEnum, dCons, dVar, hv, dNil, srcD] using r
theorem zip_tt {σ : DS} {h : DH} {R : List D → (DH → Prop) → DH → Prop} {i j : Nat} {ds es : List D} (hv : σ[i]? = some (some (.tup ds))) (hw : σ[j]? = some (some (.tup es))) (r : R (zipD ds es) (fun _ => True) h) : dZip2 (dCons (dVar i) (dCons (dVar j) dNil)) σ h R := by
  simpa [dZip2, dCons, dVar, hv, hw, dNil, srcD] using r
theorem zip_mk {σ : DS} {h h1 : DH} {R : List D → (DH → Prop) → DH → Prop} {ta : DTA} {ds es : List D} (t : ∀ Q : List D → DH → Prop, Q [.tup ds, .tup es] h1 → ta σ h Q) (r : R (zipD ds es) (fun _ => True) h1) : dZip2 ta σ h R := t _ (by simpa [srcD] using r)
theorem zipD_some : ∀ {xs ys : List D} {i : Nat} {d : D}, (zipD xs ys)[i]? = some d → ∃ x y, xs[i]? = some x ∧ ys[i]? = some y ∧ d = .tup [x, y]
  | [], _, _, _, e => by simp [zipD] at e
  | _ :: _, [], _, _, e => by simp [zipD] at e
  | x :: xs, y :: ys, 0, d, e => by simp [zipD] at e; exact ⟨x, y, rfl, rfl, e.symm⟩
  | x :: xs, y :: ys, i + 1, d, e => by
    simp only [zipD, List.getElem?_cons_succ] at e
    obtain ⟨a, b, h1, h2, h3⟩ := zipD_some e
    exact ⟨a, b, by simpa using h1, by simpa using h2, h3⟩
theorem enumD_some {xs : List D} {i : Nat} {d : D} (e : (enumD 0 xs)[i]? = some d) : ∃ x, xs[i]? = some x ∧ d = .tup [.int (i : Nat), x] := by
  have l := (List.getElem?_eq_some_iff.mp e).1
  rw [enumD_len] at l
  have := enumD_get (i := 0) (List.getElem?_eq_getElem l)
  rw [e] at this
  exact ⟨_, List.getElem?_eq_getElem l, by simpa using this⟩
theorem decide_beq {i j : Int} : ((i == j) = true) = (i = j) := by simp
theorem mod_rng {p : Int} (hp : 0 < p) (a : Int) : 0 ≤ a % p ∧ a % p < p := ⟨Int.emod_nonneg _ (by omega), Int.emod_lt_of_pos _ hp⟩
def mulPr : D → D
  | .tup [.int a, .int b] => D.int (a * b)
  | _ => .non
theorem dot_map : ∀ {ts ws : List Int}, (zipD (IL ts) (IL ws)).mapIdx (fun _ d => mulPr d) = IL (List.zipWith (fun a b => a * b) ts ws)
  | [], _ => by simp [zipD]
  | _ :: _, [] => by simp [zipD]
  | t :: ts, w :: ws => by
    have := @dot_map ts ws
    simpa [zipD, List.mapIdx_cons, mulPr] using this
theorem fx_map (p x : Int) : ∀ {ts ws : List Int}, (zipD (IL ts) (IL ws)).mapIdx (fun _ d => match d with
  | .tup [.int a, .int b] => D.int ((a + x * (b - a)) % p)
  | _ => .non) = IL (K03.fx p x ts ws)
  | [], _ => by simp [zipD, K03.fx]
  | _ :: _, [] => by simp [zipD, K03.fx]
  | t :: ts, w :: ws => by
    have := @fx_map p x ts ws
    have e : t + x * (w - t) = (1 - x) * t + x * w := by grind
    simpa [zipD, List.mapIdx_cons, K03.fx, e] using this
theorem cut_lo {α : Type} (xs : List α) (n : Nat) (h : n ≤ xs.length) : cutG xs none (some (n : Int)) = xs.take n := by
  have z : ¬ ((n : Int) < 0) := by omega
  have e : HT.sIx xs.length xs.length (some (n : Int)) = n := by simp [HT.sIx, z]; omega
  simp only [cutG, e]
  simp [HT.sIx]
theorem cut_hi {α : Type} (xs : List α) (n : Nat) (h : n ≤ xs.length) : cutG xs (some (n : Int)) none = xs.drop n := by
  have z : ¬ ((n : Int) < 0) := by omega
  have e : HT.sIx xs.length 0 (some (n : Int)) = n := by simp [HT.sIx, z]; omega
  simp only [cutG, e]
  simp [HT.sIx]
  exact List.take_of_length_le (by simp)
theorem mapIdx_const {α β : Type} (f : α → β) (xs : List α) : xs.mapIdx (fun _ d => f d) = xs.map f := by
  apply List.ext_getElem?
  intro i
  simp
theorem seq_inv {t u : DTS} {Dn : DEnds} {σ : DS} {h : DH} (Inv : DS → DH → Prop) (first : ∀ N : DS → DH → Prop, (∀ σ h, Inv σ h → N σ h) → t { Dn with nx := N } σ h) (then' : ∀ σ h, Inv σ h → u Dn σ h) : dSeq t u Dn σ h := first _ then'
theorem cut_from {α : Type} (xs : List α) (i : Int) (h : 0 ≤ i) : cutG xs (some i) none = xs.drop i.toNat := by
  have z : ¬ (i < 0) := by omega
  have e : HT.sIx xs.length 0 (some i) = min i.toNat xs.length := by simp [HT.sIx, z]
  have e2 : HT.sIx xs.length xs.length none = xs.length := by simp [HT.sIx]
  simp only [cutG, e, e2]
  by_cases hi : i.toNat ≤ xs.length
  · rw [Nat.min_eq_left hi]
    exact List.take_of_length_le (by simp)
  · rw [Nat.min_eq_right (by omega), List.drop_of_length_le (Nat.le_refl _), List.drop_of_length_le (by omega)]
    simp
theorem set_bag0 {a b c d x : D} : ([a, b, c, d] : List D).set (0 : Int).toNat x = [x, b, c, d] := rfl
theorem set_bag1 {a b c d x : D} : ([a, b, c, d] : List D).set (1 : Int).toNat x = [a, x, c, d] := rfl
theorem set_bag2 {a b c d x : D} : ([a, b, c, d] : List D).set (2 : Int).toNat x = [a, b, x, d] := rfl
theorem bagC_same {h : DH} {b c : Addr} {o : DO} {x y z : D} (gb : h b = some (.lst [x, y, z, .ref c])) (g : BagC (updD h b o) b c) : ∀ c', BagC h b c' → BagC (updD h b o) b c' := by
  rintro c' ⟨b0, b1, b2, cs, e, _⟩
  rw [gb] at e
  have := Option.some.inj e
  simp only [DO.lst.injEq, List.cons.injEq, D.ref.injEq] at this
  rw [← this.2.2.2.1]; exact g
theorem BagC.ok {h : DH} {b c : Addr} (g : BagC h b c) : BagOk h b := by obtain ⟨b0, b1, b2, cs, g⟩ := g; exact ⟨b0, b1, b2, c, cs, g⟩
theorem BagOk.c {h : DH} {b : Addr} (g : BagOk h b) : ∃ c, BagC h b c := by obtain ⟨b0, b1, b2, c, cs, g⟩ := g; exact ⟨c, b0, b1, b2, cs, g⟩
theorem BagC.sub {h h' : DH} {b c : Addr} (g : BagC h b c) (s : Sub h h') : BagC h' b c := by obtain ⟨b0, b1, b2, cs, e, f, r⟩ := g; exact ⟨b0, b1, b2, cs, s _ _ e, s _ _ f, r⟩
theorem BagC.upd {h : DH} {b c a : Addr} {o : DO} (g : BagC h b c) (h1 : a ≠ b) (h2 : a ≠ c) : BagC (updD h a o) b c := by obtain ⟨b0, b1, b2, cs, e, f, r⟩ := g; exact ⟨b0, b1, b2, cs, (updD_ne (Ne.symm h1)).trans e, (updD_ne (Ne.symm h2)).trans f, r⟩
theorem BagC.ne {h : DH} {b c a : Addr} (g : BagC h b c) (n : h a = none) : a ≠ b ∧ a ≠ c := by obtain ⟨b0, b1, b2, cs, e, f, r⟩ := g; exact ⟨(new_ne n e).symm, (new_ne n f).symm⟩
theorem BagAt.ne {h : DH} {b c : Addr} {b0 b1 b2 : Int} {cs : List Int} (g : BagAt h b b0 b1 b2 c cs) : c ≠ b := by
  rintro rfl
  obtain ⟨e1, e2, _⟩ := g
  rw [e1] at e2
  have := Option.some.inj e2
  simp only [DO.lst.injEq] at this
  match cs, this with
  | [_, _, _, _], e => simp at e
theorem zip_lt {σ : DS} {h : DH} {R : List D → (DH → Prop) → DH → Prop} {i j : Nat} {a : Addr} {ds es : List D} (hv : σ[i]? = some (some (.ref a))) (e : h a = some (.lst ds)) (hw : σ[j]? = some (some (.tup es))) (r : R (zipD ds es) (fun h' => h' a = some (.lst ds)) h) : dZip2 (dCons (dVar i) (dCons (dVar j) dNil)) σ h R := by
  simpa [dZip2, dCons, dVar, hv, hw, dNil, srcD, e] using r
theorem alk_pos {h : DH} {x y : D} {n : Nat} (q : Alk h x y n) : 1 ≤ n := by cases q <;> omega
/-- pairs still to look at -/
inductive Prs (h : DH) : List D → Nat → Prop
  | nil : Prs h [] 0
  | cons {x y : D} {r : List D} {m n : Nat} : Alk h x y m → Prs h r n → Prs h (.tup [x, y] :: r) (m + n)
theorem Prs.append {h : DH} : ∀ {a b : List D} {m n : Nat}, Prs h a m → Prs h b n → Prs h (a ++ b) (m + n)
  | [], _, _, _, .nil, q => by simpa using q
  | _ :: _, _, _, _, .cons x r, q => by
    have := Prs.cons x (Prs.append r q)
    rw [← Nat.add_assoc] at this
    exact this
theorem Prs.zip {h : DH} : ∀ {xs ys : List D} {n : Nat}, Alks h xs ys n → Prs h (zipD xs ys) n
  | [], _, _, .nil => by simpa [zipD] using Prs.nil
  | _ :: _, _ :: _, _, .cons a b => by simpa [zipD] using Prs.cons a (Prs.zip b)
theorem Prs.len {h : DH} : ∀ {a : List D} {m : Nat}, Prs h a m → a.length ≤ m
  | [], _, .nil => by simp
  | _ :: _, _, .cons x r => by
    have := Prs.len r
    have := alk_pos x
    simp only [List.length_cons]; omega
theorem Prs.mono {h h' : DH} (m : Sub h h') : ∀ {a : List D} {n : Nat}, Prs h a n → Prs h' a n
  | [], _, .nil => .nil
  | _ :: _, _, .cons x r => .cons (x.mono m) (Prs.mono m r)
theorem Prs.head {h : DH} {d : D} {r : List D} {n : Nat} (q : Prs h (d :: r) n) : ∃ x y m k, d = .tup [x, y] ∧ Alk h x y m ∧ Prs h r k ∧ n = m + k := by
  cases q with
  | cons a b => exact ⟨_, _, _, _, rfl, a, b, rfl⟩
theorem BagOk.sub {h h' : DH} {b : Addr} (s : Sub h h') (g : BagOk h b) : BagOk h' b := by
  obtain ⟨b0, b1, b2, c, cs, e1, e2, r⟩ := g
  exact ⟨b0, b1, b2, c, cs, s _ _ e1, s _ _ e2, r⟩
theorem BagOk.new {h : DH} {a b : Addr} {o : DO} (g : BagOk h b) (n : h a = none) : BagOk (updD h a o) b := g.sub (sub_new n)
theorem BagOk.ne {h : DH} {a b : Addr} (g : BagOk h b) (n : h a = none) : a ≠ b := by
  obtain ⟨b0, b1, b2, c, cs, e1, e2, r⟩ := g
  exact (new_ne n e1).symm
theorem lc_takes {ti : DTI} {g : DTG} {te : DTE} {vs : List Nat} {σ : DS} {h h1 : DH} {Q : List D → DH → Prop} {m : Nat} {p : Int} {b : Addr} (hm : m ≤ 1000000) (hi : ∀ R : List D → (DH → Prop) → DH → Prop, R (rngD 0 m) (fun _ => True) h1 → ti σ h R) (hb : BagOk h1 b)
    (turn : ∀ (i : Nat) (h : DH) (Q : DK), BagOk h b → (∀ v h', 0 ≤ v → v < p → BagOk h' b → Q (.int v) h') → g (.int (0 + (i : Int))) (dwipe σ vs) h fun σ2 h2 => te σ2 h2 Q) (done : ∀ ts h, ts.length = m → Rng p ts → BagOk h b → Q (IL ts) h) : dLc ti g dYes te vs σ h Q := by
  refine lc_mk hi (fun i acc h' => BagOk h' b ∧ i ≤ m ∧ ∃ ts, acc = IL ts ∧ ts.length = i ∧ Rng p ts) ⟨hb, by omega, [], rfl, rfl, by intro x hx; simp at hx⟩ (fun _ _ _ _ => trivial) ?_ ?_
  · rintro i d acc h hd ⟨hb, him, ts, rfl, hl, hr⟩
    obtain ⟨hi, rfl⟩ := rng_some hd
    refine turn i h _ hb fun v h' v0 v1 hb' => ⟨lt_size (by simp; omega), hb', by omega, ts ++ [v], by simp, by simp [hl], ?_⟩
    intro x hx
    simp only [List.mem_append, List.mem_singleton] at hx
    rcases hx with hx | rfl
    · exact hr x hx
    · exact ⟨v0, v1⟩
  · rintro acc h ⟨hb, him, ts, rfl, hl, hr⟩
    rw [rngD_len] at hl
    exact done ts h hl hr hb
theorem rngN {σ : DS} {h h1 : DH} {R : List D → (DH → Prop) → DH → Prop} {te : DTE} {m : Nat} (t : ∀ Q : DK, Q (.int (m : Nat)) h1 → te σ h Q) (hm : m ≤ 1000000000) (r : R (rngD 0 m) (fun _ => True) h1) : dRange1 (dCons te dNil) σ h R := rng1 (n := (m : Int)) t (by omega) (by omega) (by simpa using r)
theorem shl1 (n : Nat) : (1 : Int) * 2 ^ (n : Int).toNat = ((2 ^ n : Nat) : Int) := by simp

end DL

namespace DL
open PySem PySem.Spec L2
open PyProof.Rows hiding St
/-- a comprehension over a range, a map -/
theorem lc_rng {ti : DTI} {g : DTG} {te : DTE} {vs : List Nat} {σ : DS} {h h1 : DH} {Q : List D → DH → Prop} (n : Nat) (f : Nat → D) (hi : ∀ R : List D → (DH → Prop) → DH → Prop, R (rngD 0 n) (fun _ => True) h1 → ti σ h R) (hz : n ≤ 16777216)
    (turn : ∀ (i : Nat) (Q : DK), i < n → Q (f i) h1 → g (.int (i : Nat)) (dwipe σ vs) h1 fun σ2 h2 => te σ2 h2 Q) (done : Q ((List.range n).map f) h1) : dLc ti g dYes te vs σ h Q := by
  refine lc_map (its := rngD 0 n) (h1 := h1) (stay := fun _ => True) (fun i _ => f i) hi trivial (le_size (by rw [rngD_len]; exact hz)) (fun i d Q hd q => ?_) ?_
  · obtain ⟨hi, rfl⟩ := rng_some hd
    have := turn i Q hi q
    simpa using this
  · have : (rngD 0 n).mapIdx (fun i _ => f i) = (List.range n).map f := by
      apply List.ext_getElem?
      intro j
      by_cases hj : j < n
      · simp [rngD_get hj, hj]
      · rw [List.getElem?_eq_none (by simp [rngD_len]; omega), List.getElem?_eq_none (by simp; omega)]
    rw [this]; exact done
/-- a comprehension whose elements leave lists behind, a map -/
theorem lc_sub {ti : DTI} {g : DTG} {te : DTE} {vs : List Nat} {σ : DS} {h h1 : DH} {Q : List D → DH → Prop} {its : List D} {stay : DH → Prop} (f : Nat → D → D) (hi : ∀ R : List D → (DH → Prop) → DH → Prop, R its stay h1 → ti σ h R) (hst : ∀ h2, Sub h1 h2 → stay h2) (hz : its.length ≤ sizeLine)
    (turn : ∀ (i : Nat) (d : D) (h2 : DH) (Q : DK), its[i]? = some d → Sub h1 h2 → (∀ h3, Sub h1 h3 → Q (f i d) h3) → g d (dwipe σ vs) h2 fun σ2 h4 => te σ2 h4 Q) (done : ∀ h2, Sub h1 h2 → Q (its.mapIdx f) h2) : dLc ti g dYes te vs σ h Q := by
  refine lc_mk hi (fun i acc h => Sub h1 h ∧ acc = (its.take i).mapIdx f) ⟨.refl _, rfl⟩ (fun i acc h e => hst h e.1) ?_ ?_
  · rintro i d acc h2 e ⟨hs, rfl⟩
    have hlt : i < its.length := (List.getElem?_eq_some_iff.mp e).1
    refine turn i d h2 _ e hs fun h3 hs3 => ⟨by simp; omega, hs3, ?_⟩
    rw [List.take_add_one, e]
    simp [List.mapIdx_append, List.mapIdx_singleton]
    rw [Nat.min_eq_left (Nat.le_of_lt hlt)]
  · rintro acc h2 ⟨hs, rfl⟩
    simpa using done h2 hs
theorem seq_map {σ : DS} {ds : List D} {f : D → D} : (ds.mapIdx fun _ d => f d) = ds.map f := mapIdx_const f ds
/-- in a tuple of texts -/
theorem pyAll_strs (h : DH) (n : Nat) : ∀ ws : List Str, pyAll (pyD h (n + 1)) (ws.map D.str) = some (ws.map PyData.str)
  | [] => rfl
  | x :: xs => by
    have := pyAll_strs h n xs
    simp only [List.map_cons, pyAll, this]
    rfl
theorem lay_strs : ∀ {ws : List Str}, (∀ w ∈ ws, PyData.strOk w = true) → PyData.canLayAll0 (ws.map PyData.str) = true
  | [], _ => rfl
  | w :: ws, h => by
    simp only [List.map_cons, PyData.canLayAll0, PyData.canLay0, h w List.mem_cons_self, Bool.true_and]
    exact lay_strs fun w hm => h w (List.mem_cons_of_mem _ hm)
theorem depth_strs : ∀ ws : List Str, PyData.depthAll (ws.map PyData.str) = 0
  | [] => rfl
  | w :: ws => by simp only [List.map_cons, PyData.depthAll, PyData.depth, depth_strs ws]; rfl
theorem any_strs (x : Str) : ∀ ws : List Str, (ws.map PyData.str).any (fun z => PyData.eqv z (.str x)) = ws.any fun z => z == x
  | [] => rfl
  | w :: ws => by
    simp only [List.map_cons, List.any_cons, any_strs x ws]
    congr 1
theorem rIn_strs {neg : Bool} {x : Str} {ws : List Str} {h : DH} {Q : DK} (hx : PyData.strOk x = true) (hw : ∀ w ∈ ws, PyData.strOk w = true) (q : Q (.bl (if neg then !(ws.any fun z => z == x) else ws.any fun z => z == x)) h) : rInU neg (.str x) (.tup (ws.map .str)) h Q := by
  have e1 : pyD h 12 (.str x) = some (.str x) := rfl
  have e2 : (pyD h 12 (.tup (ws.map .str))).bind seqP = some (ws.map .str) := by
    show ((pyAll (pyD h 11) (ws.map D.str)).map PyData.tuple).bind seqP = _
    rw [pyAll_strs]; rfl
  have e3 : SeqAt.shaped (.list (ws.map PyData.str)) = true := by
    simp only [SeqAt.shaped, PyData.canLay0, PyData.depth, lay_strs hw, depth_strs]; decide
  unfold rInU
  rw [e1, e2]
  refine ⟨shaped_str hx, e3, ?_⟩
  rw [any_strs]; exact q
/-- texts that are written -/
theorem rIn_lits {x : String} {ws : List String} {h : DH} {Q : DK} (b : Bool) (e : ((ws.map Str.ofString).any fun z => z == Str.ofString x) = b) (q : Q (.bl b) h) : rInU false (.str (Str.ofString x)) (.tup ((ws.map Str.ofString).map .str)) h Q :=
  rIn_strs (strOk_str x) (fun w hw => by obtain ⟨s, _, rfl⟩ := List.mem_map.mp hw; exact strOk_str s) (by rw [e]; exact q)
theorem rEq_lit {x y : String} {h : DH} {Q : DK} (b : Bool) (e : (Str.ofString x == Str.ofString y) = b) (q : Q (.bl b) h) : rEqU (.str (Str.ofString x)) (.str (Str.ofString y)) h Q := by
  rw [rEqU_str _ _ (strOk_str x) (strOk_str y), e]; exact q
theorem rNe_lit {x y : String} {h : DH} {Q : DK} (b : Bool) (e : (!(Str.ofString x == Str.ofString y)) = b) (q : Q (.bl b) h) : rNeU (.str (Str.ofString x)) (.str (Str.ofString y)) h Q := by
  rw [rNeU_str _ _ (strOk_str x) (strOk_str y), e]; exact q
example (h : DH) (Q : DK) (q : Q (.bl true) h) : rInU false (.str "sub") (.tup [.str "add", .str "sub", .str "mul"]) h Q := rIn_lits (ws := ["add", "sub", "mul"]) true (by decide +kernel) q
example (h : DH) (Q : DK) (q : Q (.bl false) h) : rEqU (.str "sub") (.str "add") h Q := rEq_lit false (by decide +kernel) q
theorem rDGet_ref {h : DH} {Q : DK} {a : Addr} {kvs : List (Key × D)} {y : D} {k : Key} {d : D} (e : h a = some (.dct kvs)) (ek : keyD y = some k) (ev : valG kvs k = some d) (q : Q d h) : rDGet (.ref a) y h Q := by
  simpa [rDGet, dictD, e, ek, ev] using q
/-! ### sum of a list or a tuple -/
def rSumU (K : PySem.W.Frag) : List V → Hp → VK → Prop := fun vs H Q => ∃ (a : Addr) (ns : List Int), vs = [V.ref a] ∧ (SqL K H a (ns.map V.int) ∨ SqT K H a (ns.map V.int)) ∧ Q (.int ns.sum) H
theorem cr_sumU {X : Cx} (hc : X.calm = true) : CallR X (.builtin "sum") (rSumU X.K) := by
  intro pins s σ H vs us Q I r h
  obtain ⟨a, ns, rfl, hs, q⟩ := h
  rw [Vals.ref1 r]
  rcases hs with hs | hs
  · obtain ⟨its, rv, hl, _⟩ := I.list hs
    exact sum_raw (I.ok.hd hc) hl.isList rv.ints fun h' tk t' hk => ⟨.int _, H, I.kept hk, ⟨_, rfl⟩, q⟩
  · obtain ⟨its, rv, hl, _⟩ := I.tuple hs
    have hi := rv.ints
    obtain ⟨xs, e⟩ := hi.allInts.items
    have hn : numsOf (intItems xs).toList = ns := by rw [← e]; exact hi.numsOf
    rw [nums_intItems] at hn
    rw [e] at hl
    refine PySem.W.ktm_sumG (I.ok.hd hc) hl fun h' tk t' hk => ?_
    rw [preSum_eq, List.take_of_length_le (by simp), hn]
    exact ⟨.int _, H, I.kept hk, ⟨_, rfl⟩, q⟩
def rSumX : List D → DH → DK → Prop := fun xs h Q => match xs with
  | [x] => match itemsD h x with
    | some ds => match intsD ds with
      | some ns => Q (.int ns.sum) h
      | none => False
    | none => False
  | _ => False
theorem ad_sumX {K : PySem.W.Frag} : AdA K rSumX (rSumU K) := by
  intro σD σ h H dx x QD Q rs rx q p
  unfold rSumX at q
  split at q
  · rename_i d
    split at q
    · rename_i ds e
      split at q
      · rename_i ns e2
        obtain ⟨v, rfl, rv⟩ := reps_one rx
        obtain ⟨a, vs, rfl, s, r⟩ := items_of rs.hr e rv
        rw [intsD_map e2] at r
        rw [reps_ints r] at s
        exact ⟨a, ns, rfl, s, p _ h _ H q rs (by simp [Rep]) .refl⟩
      · exact q.elim
    · exact q.elim
  · exact q.elim
theorem sumX_go {x : D} {h : DH} {Q : DK} {ns : List Int} (e : itemsD h x = some (IL ns)) (q : Q (.int ns.sum) h) : rSumX [x] h Q := by simpa [rSumX, e, intsD_of] using q
theorem rgC_mk {m w : Nat} (hm : 0 < m) (h1 : m ≤ 65536) (h2 : w ≤ 65536) {l : Int} (e : l = ((w * m : Nat) : Int)) : RgC 0 l (m : Nat) w := by
  subst e
  have hl : w * m ≤ 4294967296 := Nat.le_trans (Nat.mul_le_mul h2 h1) (by decide)
  have sz : Builtin.Range.rangeSize 0 ((w * m : Nat) : Int) (m : Nat) = (w : Nat) := by
    rw [rangeSize_pos (by omega) (by omega)]
    have : (((w * m : Nat) : Int) + (m : Int) - 1) = (m : Int) - 1 + (m : Int) * (w : Int) := by rw [Int.natCast_mul, Int.mul_comm]; omega
    rw [this, Int.add_mul_ediv_left _ _ (by omega)]
    have : ((m : Int) - 1) / (m : Int) = 0 := Int.ediv_eq_zero_of_lt (by omega) (by omega)
    omega
  refine ⟨by omega, by omega, ?_, sz⟩
  unfold Builtin.Range.small
  rw [sz]
  have : (m : Int) > 0 := by omega
  simp only [Builtin.Range.rangeFitsLong, Bool.and_eq_true, Bool.or_eq_true, decide_eq_true_eq, beq_iff_eq, this, if_true]
  omega
end DL

namespace Pl
open K03
/-- p divides no product without dividing a factor -/
def Prm (p : Int) : Prop := 1 < p ∧ ∀ a b, Eqp p (a * b) 0 → Eqp p a 0 ∨ Eqp p b 0
theorem eqp_dvd {p a : Int} : Eqp p a 0 ↔ p ∣ a := ⟨fun ⟨k, e⟩ => ⟨k, by omega⟩, fun ⟨k, e⟩ => ⟨k, by omega⟩⟩
theorem prm_of (n : Nat) (h1 : 1 < n) (h : ∀ m, m ∣ n → m = 1 ∨ m = n) : Prm (n : Int) := by
  refine ⟨by omega, fun a b e => ?_⟩
  rw [eqp_dvd] at e
  simp only [eqp_dvd]
  have e2 : n ∣ a.natAbs * b.natAbs := by
    rw [← Int.natAbs_mul]
    exact Int.ofNat_dvd_left.mp e
  rcases h _ (Nat.gcd_dvd_left n a.natAbs) with g | g
  · right
    have c : Nat.Coprime n a.natAbs := g
    exact Int.ofNat_dvd_left.mpr (c.dvd_of_dvd_mul_left e2)
  · left
    have : n ∣ a.natAbs := by
      have := Nat.gcd_dvd_right n a.natAbs
      rwa [g] at this
    exact Int.ofNat_dvd_left.mpr this
theorem prime_of (n : Nat) (h1 : 1 < n) (h : ∀ m < n, 2 ≤ m → n % m ≠ 0) : ∀ m, m ∣ n → m = 1 ∨ m = n := by
  intro m hm
  have le := Nat.le_of_dvd (by omega) hm
  by_cases h2 : 2 ≤ m
  · by_cases h3 : m < n
    · exact absurd (Nat.mod_eq_zero_of_dvd hm) (h m h3 h2)
    · right; omega
  · left
    have : m ≠ 0 := by rintro rfl; have := Nat.eq_zero_of_zero_dvd hm; omega
    omega
theorem prm5 : Prm 5 := prm_of 5 (by decide) (prime_of 5 (by decide) (by decide))
theorem prm7 : Prm 7 := prm_of 7 (by decide) (prime_of 7 (by decide) (by decide))
theorem prm11 : Prm 11 := prm_of 11 (by decide) (prime_of 11 (by decide) (by decide))
theorem prm13 : Prm 13 := prm_of 13 (by decide) (prime_of 13 (by decide) (by decide))
theorem prm101 : Prm 101 := prm_of 101 (by decide) (prime_of 101 (by decide) (by decide))
theorem Prm.mul {p a b : Int} (h : Prm p) (ha : ¬ Eqp p a 0) (hb : ¬ Eqp p b 0) : ¬ Eqp p (a * b) 0 := fun e => (h.2 a b e).elim ha hb
theorem Prm.cancel {p a b c : Int} (h : Prm p) (hc : ¬ Eqp p c 0) (e : Eqp p (a * c) (b * c)) : Eqp p a b := by
  have e1 : Eqp p ((a - b) * c) 0 := by obtain ⟨k, e⟩ := e; exact ⟨k, by grind⟩
  rcases h.2 _ _ e1 with ⟨k, e⟩ | e
  · exact ⟨k, by grind⟩
  · exact absurd e hc
theorem small_ne {p a : Int} (h1 : a ≠ 0) (h2 : -p < a) (h3 : a < p) : ¬ Eqp p a 0 := by
  rintro ⟨k, e⟩
  have e : a = p * k := by omega
  have : k ≤ -1 ∨ k = 0 ∨ 1 ≤ k := by omega
  rcases this with hk | rfl | hk
  · have := Int.mul_le_mul_of_nonneg_left hk (show 0 ≤ p by omega); omega
  · simp at e; exact h1 e
  · have := Int.mul_le_mul_of_nonneg_left hk (show 0 ≤ p by omega); omega
/-! ### Fermat -/
theorem perm_sub {α : Type} [DecidableEq α] : ∀ (a b : List α), a.Nodup → (∀ x ∈ a, x ∈ b) → b.length ≤ a.length → a.Perm b
  | [], b, _, _, l => by
    have : b = [] := List.length_eq_zero_iff.mp (by simpa using l)
    rw [this]
  | x :: a, b, nd, s, l => by
    have hx : x ∈ b := s x List.mem_cons_self
    have nd' := List.nodup_cons.mp nd
    have p := List.perm_cons_erase hx
    refine List.Perm.trans (List.Perm.cons x ?_) p.symm
    refine perm_sub a (b.erase x) nd'.2 (fun y hy => ?_) (by rw [List.length_erase_of_mem hx]; simp at l; omega)
    have ne : y ≠ x := by rintro rfl; exact nd'.1 hy
    exact (List.mem_erase_of_ne ne).mpr (s y (List.mem_cons_of_mem _ hy))
def pr (l : List Int) : Int := l.foldr (· * ·) 1
theorem pr_perm {a b : List Int} (h : a.Perm b) : pr a = pr b := by
  induction h with
  | nil => rfl
  | cons x _ ih => simp only [pr, List.foldr_cons] at *; rw [ih]
  | swap x y l => simp only [pr, List.foldr_cons]; grind
  | trans _ _ h1 h2 => rw [h1, h2]
theorem pr_mod (p a : Int) : ∀ l : List Int, Eqp p (pr (l.map fun x => a * x % p)) (a ^ l.length * pr l)
  | [] => .rfl' (by simp [pr])
  | x :: l => by
    have := pr_mod p a l
    simp only [List.map_cons, pr, List.foldr_cons, List.length_cons, Int.pow_succ] at *
    exact ((Eqp.md p _).mul this).trans (.rfl' (by grind))
theorem pr_ne {p : Int} (h : Prm p) : ∀ l : List Int, (∀ x ∈ l, ¬ Eqp p x 0) → ¬ Eqp p (pr l) 0
  | [], _ => by
    have := h.1
    exact small_ne (by simp [pr]) (by simp [pr]; omega) (by simp [pr]; omega)
  | x :: l, g => h.mul (g x List.mem_cons_self) (pr_ne h l fun y hy => g y (List.mem_cons_of_mem _ hy))
theorem fermat {n : Nat} (h : Prm (n : Int)) {a : Int} (ha : ¬ Eqp n a 0) : Eqp n (a ^ (n - 1)) 1 := by
  have h1 := h.1
  have hn : 0 < (n : Int) := by omega
  generalize hl : (List.range (n - 1)).map (fun i : Nat => ((i : Int) + 1)) = l
  have mem : ∀ x, x ∈ l ↔ 1 ≤ x ∧ x < n := by
    intro x
    rw [← hl]
    simp only [List.mem_map, List.mem_range]
    exact ⟨fun ⟨i, hi, e⟩ => by omega, fun e => ⟨(x - 1).toNat, by omega, by omega⟩⟩
  have len : l.length = n - 1 := by rw [← hl]; simp
  have nd : l.Nodup := by
    rw [← hl]
    unfold List.Nodup
    rw [List.pairwise_map]
    exact List.Pairwise.imp (fun {a b} (h : a ≠ b) => by omega) List.nodup_range
  have lne : ∀ x ∈ l, ¬ Eqp n x 0 := fun x hx => by
    have := (mem x).mp hx
    exact small_ne (by omega) (by omega) (by omega)
  have pm : (l.map fun x => a * x % (n : Int)).Perm l := by
    refine perm_sub _ _ ?_ ?_ (by simp)
    · unfold List.Nodup
      rw [List.pairwise_map]
      refine List.Pairwise.imp_of_mem (R := fun x y => x ≠ y) ?_ nd
      intro x y hx hy hxy e
      have e1 : Eqp n (x * a) (y * a) := by rw [Int.mul_comm x, Int.mul_comm y]; exact .of_mod e
      obtain ⟨k, e2⟩ := h.cancel ha e1
      have := (mem x).mp hx
      have := (mem y).mp hy
      exact small_ne (p := n) (a := x - y) (by omega) (by omega) (by omega) ⟨k, by omega⟩
    · intro z hz
      obtain ⟨x, hx, rfl⟩ := List.mem_map.mp hz
      rw [mem]
      have r1 := Int.emod_nonneg (a * x) (show (n : Int) ≠ 0 by omega)
      have r2 := Int.emod_lt_of_pos (a * x) hn
      have : a * x % (n : Int) ≠ 0 := fun e => h.mul ha (lne x hx) (.of_mod (by rw [e]; simp))
      omega
  have e := pr_perm pm
  have e2 := pr_mod n a l
  rw [e, len] at e2
  exact (h.cancel (pr_ne h l lne) ((Eqp.rfl' (by simp)).trans e2)).symm
theorem inv_mul {p : Int} (h : Prm p) {a : Int} (ha : ¬ Eqp p a 0) : Eqp p (a * a ^ (p - 2).toNat) 1 := by
  have h1 := h.1
  obtain ⟨n, rfl⟩ : ∃ n : Nat, p = n := ⟨p.toNat, by omega⟩
  have := fermat h ha
  have e : n - 1 = ((n : Int) - 2).toNat + 1 := by omega
  rw [e, Int.pow_succ, Int.mul_comm] at this
  exact this
/-! ### curves -/
def ev : List Int → Int → Int
  | [], _ => 0
  | c :: cs, x => c + x * ev cs x
theorem ev_eqp {p x y : Int} (h : Eqp p x y) : ∀ cs : List Int, Eqp p (ev cs x) (ev cs y)
  | [] => .refl _ _
  | c :: cs => (Eqp.refl p c).add (h.mul (ev_eqp h cs))
/-- by a root -/
theorem ev_root (r : Int) : ∀ cs : List Int, ∃ ds : List Int, ds.length = cs.length - 1 ∧ ∀ x, ev cs x = (x - r) * ev ds x + ev cs r
  | [] => ⟨[], rfl, fun x => by simp [ev]⟩
  | [c] => ⟨[], rfl, fun x => by simp [ev]⟩
  | c :: d :: cs => by
    obtain ⟨ds, l, e⟩ := ev_root r (d :: cs)
    refine ⟨ev (d :: cs) r :: ds, by simp at l; simp [l], fun x => ?_⟩
    show c + x * ev (d :: cs) x = (x - r) * (ev (d :: cs) r + x * ev ds x) + (c + r * ev (d :: cs) r)
    rw [e x]; grind
theorem ev_zero {p : Int} (h : Prm p) : ∀ (rs cs : List Int), rs.Pairwise (fun a b => ¬ Eqp p (a - b) 0) → (∀ r ∈ rs, Eqp p (ev cs r) 0) → cs.length ≤ rs.length → ∀ x, Eqp p (ev cs x) 0
  | [], cs, _, _, l, x => by
    have : cs = [] := List.length_eq_zero_iff.mp (by simpa using l)
    rw [this]; exact .refl _ _
  | r :: rs, cs, d, z, l, x => by
    obtain ⟨ds, l2, e⟩ := ev_root r cs
    have z0 := z r List.mem_cons_self
    have dp := List.pairwise_cons.mp d
    have ez : ∀ y, Eqp p (ev cs y) ((y - r) * ev ds y) := fun y => by rw [e y]; exact ((Eqp.refl p _).add z0).trans (.rfl' (by simp))
    have := ev_zero h rs ds dp.2 (fun s hs => ?_) (by simp at l; omega) x
    · exact (ez x).trans (((Eqp.refl p _).mul this).trans (.rfl' (by simp)))
    · have e1 := (ez s).symm.trans (z s (List.mem_cons_of_mem _ hs))
      have ne : ¬ Eqp p (s - r) 0 := fun ⟨k, ek⟩ => dp.1 s hs ⟨-k, by grind⟩
      exact (h.2 _ _ e1).elim (fun g => absurd g ne) id
/-- f is a curve of degree d up to p -/
def Pol (p : Int) (d : Nat) (f : Int → Int) : Prop := ∃ cs : List Int, cs.length ≤ d + 1 ∧ ∀ x, Eqp p (f x) (ev cs x)
theorem Pol.congr {p : Int} {d : Nat} {f g : Int → Int} (h : Pol p d f) (e : ∀ x, Eqp p (g x) (f x)) : Pol p d g := by
  obtain ⟨cs, l, q⟩ := h
  exact ⟨cs, l, fun x => (e x).trans (q x)⟩
theorem Pol.le {p : Int} {d e : Nat} {f : Int → Int} (h : Pol p d f) (l : d ≤ e) : Pol p e f := by
  obtain ⟨cs, l1, q⟩ := h
  exact ⟨cs, by omega, q⟩
theorem Pol.const (p c : Int) : Pol p 0 fun _ => c := ⟨[c], by simp, fun x => .rfl' (by simp [ev])⟩
theorem Pol.lin (p a b : Int) : Pol p 1 fun x => a + b * x := ⟨[a, b], by simp, fun x => .rfl' (by simp [ev]; grind)⟩
def adds : List Int → List Int → List Int
  | [], b => b
  | a, [] => a
  | x :: a, y :: b => (x + y) :: adds a b
theorem adds_len : ∀ a b : List Int, (adds a b).length = max a.length b.length
  | [], b => by simp [adds]
  | x :: a, [] => by simp [adds]
  | x :: a, y :: b => by simp [adds, adds_len a b]
theorem adds_ev (x : Int) : ∀ a b : List Int, ev (adds a b) x = ev a x + ev b x
  | [], b => by simp [adds, ev]
  | y :: a, [] => by simp [adds, ev]
  | y :: a, z :: b => by simp [adds, ev, adds_ev x a b]; grind
theorem Pol.add {p : Int} {d : Nat} {f g : Int → Int} (h1 : Pol p d f) (h2 : Pol p d g) : Pol p d fun x => f x + g x := by
  obtain ⟨a, l1, q1⟩ := h1
  obtain ⟨b, l2, q2⟩ := h2
  exact ⟨adds a b, by rw [adds_len]; omega, fun x => by rw [adds_ev]; exact (q1 x).add (q2 x)⟩
theorem smul_ev (c x : Int) : ∀ a : List Int, ev (a.map fun y => c * y) x = c * ev a x
  | [] => by simp [ev]
  | y :: a => by simp only [List.map_cons, ev, smul_ev c x a]; grind
theorem Pol.smul {p : Int} {d : Nat} {f : Int → Int} (c : Int) (h : Pol p d f) : Pol p d fun x => c * f x := by
  obtain ⟨a, l, q⟩ := h
  exact ⟨a.map fun y => c * y, by simpa using l, fun x => by rw [smul_ev]; exact (Eqp.refl p c).mul (q x)⟩
theorem Pol.xmul {p : Int} {d : Nat} {f : Int → Int} (h : Pol p d f) : Pol p (d + 1) fun x => x * f x := by
  obtain ⟨a, l, q⟩ := h
  exact ⟨0 :: a, by simp; omega, fun x => ((Eqp.refl p x).mul (q x)).trans (.rfl' (by simp [ev]))⟩
theorem Pol.mul {p : Int} {d e : Nat} {f g : Int → Int} (h1 : Pol p d f) (h2 : Pol p e g) : Pol p (d + e) fun x => f x * g x := by
  obtain ⟨a, l, q⟩ := h1
  have : ∀ (a : List Int) (d : Nat), a.length ≤ d + 1 → Pol p (d + e) fun x => ev a x * g x := by
    intro a
    induction a with
    | nil => intro d _; exact ((Pol.const p 0).le (by omega)).congr fun x => .rfl' (by simp [ev])
    | cons c a ih =>
      intro d l
      by_cases hd : a = []
      · subst hd
        exact ((h2.smul c).le (by omega)).congr fun x => .rfl' (by simp [ev])
      · have la : 0 < a.length := List.length_pos_iff.mpr hd
        obtain ⟨d', rfl⟩ : ∃ d', d = d' + 1 := ⟨d - 1, by simp at l; omega⟩
        have i := (ih d' (by simp at l; omega)).xmul
        refine (((h2.smul c).le (show e ≤ d' + 1 + e by omega)).add (i.le (show d' + e + 1 ≤ d' + 1 + e by omega))).congr fun x => .rfl' ?_
        simp only [ev]; grind
  exact (this a d l).congr fun x => (q x).mul (Eqp.refl _ _)
theorem Pol.sum {p : Int} {d : Nat} {α : Type} : ∀ (L : List α) (f : α → Int → Int), (∀ i ∈ L, Pol p d (f i)) → Pol p d fun x => (L.map fun i => f i x).sum
  | [], f, _ => ((Pol.const p 0).le (Nat.zero_le d)).congr fun x => .rfl' (by simp)
  | i :: L, f, h => ((h i List.mem_cons_self).add (Pol.sum L f fun j hj => h j (List.mem_cons_of_mem _ hj))).congr fun x => .rfl' (by simp)
theorem Pol.eqp {p x y : Int} {d : Nat} {f : Int → Int} (h : Pol p d f) (e : Eqp p x y) : Eqp p (f x) (f y) := by
  obtain ⟨a, l, q⟩ := h
  exact ((q x).trans (ev_eqp e a)).trans (q y).symm
/-- two curves that agree at 0 .. d agree everywhere -/
theorem Pol.same {p : Int} {d : Nat} {f g : Int → Int} (hp : Prm p) (h1 : Pol p d f) (h2 : Pol p d g) (hd : (d : Int) < p) (e : ∀ k : Nat, k ≤ d → Eqp p (f k) (g k)) (x : Int) : Eqp p (f x) (g x) := by
  obtain ⟨cs, l, q⟩ := h1.add (h2.smul (-1))
  have z := ev_zero hp ((List.range (d + 1)).map fun k : Nat => (k : Int)) cs ?_ ?_ (by simpa using l) x
  · obtain ⟨k, ek⟩ := (q x).trans z
    have ek : f x + -1 * g x = 0 + p * k := ek
    exact ⟨k, by omega⟩
  · rw [List.pairwise_map]
    refine List.Pairwise.imp_of_mem (R := fun a b => a ≠ b) ?_ (List.nodup_range (n := d + 1))
    intro a b ha hb hab
    have := List.mem_range.mp ha
    have := List.mem_range.mp hb
    exact small_ne (by omega) (by omega) (by omega)
  · intro r hr
    obtain ⟨k, hk, rfl⟩ := List.mem_map.mp hr
    refine (q _).symm.trans ?_
    obtain ⟨j, ej⟩ := e k (by have := List.mem_range.mp hk; omega)
    exact ⟨j, by grind⟩
/-! ### Lagrange -/
def px : Nat → Nat → Int → Int
  | 0, _, _ => 1
  | m + 1, k, x => if m = k then px m k x else px m k x * (x - (m : Int))
theorem px_pol (p : Int) : ∀ m k, Pol p (if k < m then m - 1 else m) (px m k)
  | 0, k => (Pol.const p 1).congr fun x => .refl _ _
  | m + 1, k => by
    have ih := px_pol p m k
    by_cases h : m = k
    · subst h
      rw [if_neg (by omega)] at ih
      rw [if_pos (by omega)]
      exact ih.congr fun x => .rfl' (by simp [px])
    · have lin : Pol p 1 fun x => x - (m : Int) := (Pol.lin p (-(m : Int)) 1).congr fun x => .rfl' (by omega)
      have := ih.mul lin
      refine (this.le ?_).congr fun x => .rfl' (by simp [px, h])
      split <;> split <;> omega
theorem px_zero (k j : Nat) (hjk : j ≠ k) : ∀ m, j < m → px m k (j : Int) = 0
  | 0, h => by omega
  | m + 1, h => by
    by_cases e : j = m
    · subst e
      simp [px, hjk]
    · have := px_zero k j hjk m (by omega)
      simp only [px, this]
      split <;> simp
theorem px_ne {p : Int} (hp : Prm p) (k : Nat) : ∀ m : Nat, (m : Int) ≤ p → (k : Int) < p → ¬ Eqp p (px m k (k : Int)) 0
  | 0, _, _ => by have := hp.1; exact small_ne (by simp [px]) (by simp [px]; omega) (by simp [px]; omega)
  | m + 1, h, hk => by
    have ih := px_ne hp k m (by omega) hk
    simp only [px]
    split
    · exact ih
    · exact hp.mul ih (small_ne (by omega) (by omega) (by omega))
def lagT (p : Int) (m k : Nat) (v x : Int) : Int := v * px m k x * (px m k (k : Int)) ^ (p - 2).toNat
def lag (p : Int) (vs : List Int) (x : Int) : Int := ((List.range vs.length).map fun k => lagT p vs.length k (vs.getD k 0) x).sum
theorem lag_pol (p : Int) (vs : List Int) : Pol p (vs.length - 1) (lag p vs) := by
  refine Pol.sum (List.range vs.length) (fun k x => lagT p vs.length k (vs.getD k 0) x) fun k hk => ?_
  have hk := List.mem_range.mp hk
  have := px_pol p vs.length k
  rw [if_pos hk] at this
  exact (this.smul (vs.getD k 0 * (px vs.length k (k : Int)) ^ (p - 2).toNat)).congr fun x => .rfl' (by unfold lagT; grind)
theorem sum_one {α : Type} [DecidableEq α] (f : α → Int) (a : α) : ∀ L : List α, L.Nodup → a ∈ L → (∀ b ∈ L, b ≠ a → f b = 0) → (L.map f).sum = f a
  | [], _, h, _ => by simp at h
  | b :: L, nd, h, z => by
    have nd' := List.nodup_cons.mp nd
    simp only [List.map_cons, List.sum_cons]
    by_cases e : b = a
    · subst e
      have : ∀ L : List α, (∀ c ∈ L, f c = 0) → (L.map f).sum = 0 := by
        intro L h
        induction L with
        | nil => rfl
        | cons c L ih => simp only [List.map_cons, List.sum_cons, h c List.mem_cons_self, ih fun d hd => h d (List.mem_cons_of_mem _ hd)]; rfl
      rw [this L fun c hc => z c (List.mem_cons_of_mem _ hc) (by rintro rfl; exact nd'.1 hc)]
      omega
    · have ha : a ∈ L := by
        rcases List.mem_cons.mp h with g | g
        · exact absurd g.symm e
        · exact g
      rw [z b List.mem_cons_self e, sum_one f a L nd'.2 ha fun c hc => z c (List.mem_cons_of_mem _ hc)]
      omega
theorem lag_at {p : Int} (hp : Prm p) (vs : List Int) (hl : (vs.length : Int) ≤ p) (k : Nat) (hk : k < vs.length) : Eqp p (lag p vs (k : Int)) (vs.getD k 0) := by
  have e : lag p vs (k : Int) = lagT p vs.length k (vs.getD k 0) (k : Int) := by
    refine sum_one (fun j => lagT p vs.length j (vs.getD j 0) (k : Int)) k (List.range vs.length) List.nodup_range (List.mem_range.mpr hk) fun j hj hjk => ?_
    simp [lagT, px_zero j k (Ne.symm hjk) vs.length hk]
  rw [e]
  unfold lagT
  have i := inv_mul hp (px_ne hp k vs.length hl (by omega))
  exact ((Eqp.refl p (vs.getD k 0)).mul i |>.trans (.rfl' (by simp)) |> (Eqp.rfl' (by grind)).trans)
/-- what is interpolated from 0 .. d is the curve -/
theorem lag_eq {p : Int} (hp : Prm p) {d : Nat} {f : Int → Int} (h : Pol p d f) (hd : (d : Int) < p) (vs : List Int) (hl : vs.length = d + 1) (e : ∀ k : Nat, k ≤ d → Eqp p (vs.getD k 0) (f k)) (x : Int) : Eqp p (lag p vs x) (f x) := by
  refine Pol.same hp ((lag_pol p vs).le (by omega)) h hd (fun k hk => ?_) x
  exact (lag_at hp vs (by omega) k (by omega)).trans (e k hk)
end Pl

namespace HT
open PySem PyProof.Rows L2
section
variable {prog : Program} {w : World} {A : Around} {E : Value → Shared → Prop} {s : Shared}
theorem fm_map {α β : Type} (f : α → Option β) (g : α → β) : ∀ l : List α, (∀ k ∈ l, f k = some (g k)) → l.filterMap f = l.map g
  | [], _ => rfl
  | k :: l, h => by
    rw [List.filterMap_cons, h k List.mem_cons_self, List.map_cons, fm_map f g l fun j hj => h j (List.mem_cons_of_mem _ hj)]
/-- t[::-1] -/
theorem getItem_tuple_rev {t sl : Addr} {items : Array Value} {u : Tok} {Q : Value → Shared → Prop} (ht : IsTup s.heap t items) (hs : s.heap.IsSliceOf sl .none .none (.int (-1) u))
    (h : Q (.ref s.heap.objs.size) { s with heap := s.heap.push { cls := .type "tuple", data := .seq items.toList.reverse.toArray } })
    (hsz : items.size ≤ sizeLine) : wpAny (model prog w) A (getItem (.ref t) (.ref sl)) Q E s := by
  have htake : sizeOk (.seq items.toList.reverse.toArray) := by
    show items.toList.reverse.toArray.size ≤ sizeLine
    simpa using hsz
  obtain ⟨os, hos, hcs, hds⟩ := id hs
  have hTs : s.TypeIs (.ref sl) "slice" := ⟨os, hos, hcs⟩
  unfold getItem
  try with_reducible refine wpAny_holding ?_
  first | refine wpAny_bind (wpAny_pure ?_) | skip
  refine wpAny_bind (wpAny_sequenceKey ht.typeIs (by decide) ?_)
  refine wpAny_bind (wpAny_callSpecial?_slot (name := Str.ofString "__getitem__") ht.typeIs PyProof.Rows.slot_tuple_getitem
    (wpAny_call_entry PyProof.Rows.slot_tuple_getitem ht.typeIs entry_tuple_getitem ?_ (args_tuple_getitem _ _)))
  show wpAny _ _ (Builtin.Tuple.tupleItemsOf (.ref t) >>= _) _ _ s
  refine wpAny_bind (tupleItemsOf_ ht ?_)
  refine wpAny_bind (wpAny_typeOf hTs ?_)
  rw [if_pos (by decide)]
  have pl : Builtin.Slice.slicePlaces ((items.size : Int) - 1) (-1) (-1) = items.size := by
    unfold Builtin.Slice.slicePlaces
    simp only [show ¬ ((-1 : Int) > 0) by omega, if_false]
    split
    · rw [show (-(-1 : Int)) = 1 by omega, Int.ediv_one]; omega
    · omega
  refine wpAny_bind (m := Builtin.Slice.sliceApplied (.ref sl) (pure (items.size : Int))) ?_
  unfold Builtin.Slice.sliceApplied Builtin.Slice.sliceFields
  refine wpAny_bind (wpAny_bind (wpAny_field hos hds (x := .none) rfl (wpAny_bind (wpAny_field hos hds (x := .none) rfl (wpAny_bind (wpAny_field hos hds (x := .int (-1) u) rfl (wpAny_pure ?_)))))))
  refine wpAny_bind (slicePart_int ?_)
  show wpAny _ _ (if ((-1 : Int) == 0) = true then _ else _) _ _ s
  rw [if_neg (by decide)]
  refine wpAny_bind (slicePart_none (wpAny_bind (slicePart_none (wpAny_bind (wpAny_pure ?_)))))
  show wpAny _ _ (pure ((items.size : Int) - 1, (-1 : Int), Builtin.Slice.slicePlaces ((items.size : Int) - 1) (-1) (-1))) _ _ s
  rw [pl]
  refine wpAny_pure ?_
  have hno : ¬ (((((items.size : Int) - 1) == 0) && ((-1 : Int) == 1) && (items.size == items.size)) = true) := by simp
  show wpAny _ _ (if ((((items.size : Int) - 1) == 0) && ((-1 : Int) == 1) && (items.size == items.size)) = true then _ else _) _ _ s
  rw [if_neg hno]
  have e : ((List.range items.size).filterMap fun (k : Nat) => items[(((items.size : Int) - 1) + (k : Int) * (-1)).toNat]?) = items.toList.reverse := by
    have e1 : ∀ k ∈ List.range items.size, items[(((items.size : Int) - 1) + (k : Int) * (-1)).toNat]? = some (items.toList.reverse.getD k .none) := by
      intro k hk
      have hk := List.mem_range.mp hk
      have e2 : (((items.size : Int) - 1) + (k : Int) * (-1)).toNat = items.size - 1 - k := by omega
      rw [e2]
      have hl : items.size - 1 - k < items.size := by omega
      rw [List.getD_eq_getElem?_getD, List.getElem?_reverse (by simpa using hk)]
      simp [hl]
    have e3 : (List.range items.size).filterMap (fun (k : Nat) => items[(((items.size : Int) - 1) + (k : Int) * (-1)).toNat]?) = (List.range items.size).map fun k => items.toList.reverse.getD k .none := by
      exact fm_map _ _ _ e1
    rw [e3]
    apply List.ext_getElem?
    intro j
    by_cases hj : j < items.size
    · have hj' : j < items.toList.reverse.length := by simpa using hj
      rw [List.getElem?_map, List.getElem?_range hj, Option.map_some, List.getD_eq_getElem?_getD, List.getElem?_eq_getElem hj']
      rfl
    · rw [List.getElem?_eq_none (by simpa using hj), List.getElem?_eq_none (by simpa using hj)]
  rw [e]
  first
    | exact wpAny_bind (m := Builtin.Tuple.tupleExact _) (wpAny_newObj_type (wpAny_pure ⟨_, rfl, wpAny_pure h⟩) htake)
    | exact wpAny_bind (m := Builtin.Tuple.tupleExact _) (wpAny_newObj_type (wpAny_bind (wpAny_pure (wpAny_pure ⟨_, rfl, wpAny_pure h⟩))) htake)
    | exact wpAny_bind (wpAny_bind (m := Builtin.Tuple.tupleExact _) (wpAny_newObj_type (wpAny_pure (wpAny_pure ⟨_, rfl, wpAny_pure h⟩)) htake))
    | exact wpAny_bind (wpAny_bind (m := Builtin.Tuple.tupleExact _) (wpAny_newObj_type (wpAny_pure ⟨_, rfl, wpAny_pure h⟩) htake))
end
end HT

namespace DL
open PySem PySem.Spec L2
open PyProof.Rows hiding St
/-! ### t[::-1] -/
def tRevT (K : PySem.W.Frag) (te : TE) : TE := fun σ H Q => te σ H fun x H1 => ∃ a xs, x = .ref a ∧ SqT K H1 a xs ∧ ∀ p, H1 p = none → Q (.ref p) (upd H1 p (.tup xs.reverse))
theorem pe_revT {X : Cx} {te : TE} {e : Expr} {k : Nat} {p1 p2 p3 pos : Pos} (he : PE X e te) : PE X (.Subscript e (.Slice none none (some (.UnaryOp .USub (.Constant (.int 1) k p1) p2)) p3) pos) (tRevT X.K te) := by
  refine ⟨fun pins s σ H Q I h => ?_⟩
  refine Subscript_ (thn (he.run pins s σ H _ I h) fun v s1 ⟨x, H1, I1, r1, q1⟩ => ?_)
  obtain ⟨a, xs, ex, hx, q⟩ := q1
  subst ex
  cases r1
  have hst : PO X (some (.UnaryOp .USub (.Constant (.int 1) k p1) p2)) (tPart (tUn (rU fun i => .int (-i)) (tC (.int 1)))) := po_some (pe_un un_neg pe_int)
  refine wpAny_Slice (thn (po_none.run pins s1 σ H1 (fun o H2 => o = none ∧ H2 = H1) I1 ⟨rfl, rfl⟩) fun vl s2 ⟨l, H2, I2, pl, el, e2⟩ => ?_)
  subst el e2
  refine thn (po_none.run pins s2 σ H2 (fun o H3 => o = none ∧ H3 = H2) I2 ⟨rfl, rfl⟩) fun vu s3 ⟨u, H3, I3, pu, eu, e3⟩ => ?_
  subst eu e3
  refine thn (hst.run pins s3 σ H3 (fun o H4 => o = some (-1) ∧ H4 = H3) I3 ⟨1, rfl, -1, rfl, rfl, rfl⟩) fun vs s4 ⟨o, H4, I4, ps, eo, e4⟩ => ?_
  subst eo e4
  have I5 : Inv X pins σ H4 { s4 with heap := s4.heap.push { cls := .type "slice", data := .fields #[vl, vu, vs] } } := I4.kept (t' := s4.toks) fun b ob q => Heap.get?_push_of_some _ q
  obtain ⟨its, r, ht, hz⟩ := I5.tuple hx
  show wpAny (model X.prog X.w) X.A (subscriptTail e (.Slice none none (some (.UnaryOp .USub (.Constant (.int 1) k p1) p2)) p3) (.ref a) (.ref s4.heap.objs.size)) (EP X pins σ Q) X.xe { s4 with heap := s4.heap.push { cls := .type "slice", data := .fields #[vl, vu, vs] } }
  refine tail_any (ops := [.ref a, .ref s4.heap.objs.size]) ht.typeIs (PyProof.Rows.slot_tuple_getitem.lookup) ?_ (by with_unfolding_all rfl)
  cases pl
  cases pu
  cases ps
  refine HT.getItem_tuple_rev ht (Heap.IsSliceOf.new _ _ _ _) ?_ (by rw [List.size_toArray, ← r.length]; exact hz)
  refine ⟨.ref _, _, I5.laid (t' := s4.toks) (o := .tup xs.reverse) (fun b ob q => Heap.get?_push_of_some _ q) (Nat.le_refl _) ?_, rfl, q _ (I5.hok.fresh (Nat.le_refl _))⟩
  exact ⟨by rw [List.length_reverse]; exact hz, _, r.reverse, IsTup.new _ _⟩
theorem Reps.reverse {K : PySem.W.Frag} {H : Hp} : ∀ {ds : List D} {vs : List V}, Reps K H ds vs → Reps K H ds.reverse vs.reverse
  | [], _, r => by obtain rfl := reps_nil r; simp [Reps]
  | d :: ds, _, r => by
    obtain ⟨v, r', rfl, a, b⟩ := reps_cons r
    rw [List.reverse_cons, List.reverse_cons]
    exact (Reps.reverse b).append (by unfold Reps; exact ⟨v, [], rfl, a, by simp [Reps]⟩)
def dRevT (te : DTE) : DTE := fun σ h Q => te σ h fun x h1 => match x with
  | .tup ds => Q (.tup ds.reverse) h1
  | _ => False
theorem de_revT {X : Cx} {te : DTE} {e : Expr} {k : Nat} {p1 p2 p3 pos : Pos} (he : DE X e te) : DE X (.Subscript e (.Slice none none (some (.UnaryOp .USub (.Constant (.int 1) k p1) p2)) p3) pos) (dRevT te) :=
  (pe_revT he).imp fun σ H Q ⟨σD, h, QD, rs, q, p⟩ => by
    refine ⟨σD, h, _, rs, q, fun d1 h1 v1 H1 q1 rs1 r1 k1 => ?_⟩
    split at q1
    · obtain ⟨a, vs, rfl, s, r⟩ := rep_tup r1
      exact ⟨a, vs, rfl, s, (p.after k1).tup rs1 r.reverse q1⟩
    · exact q1.elim
/-! ### any value as a test -/
def truD (h : DH) : D → Option Bool
  | .non => some false
  | .bl b => some b
  | .int i => some (i != 0)
  | .tup ds => some (!ds.isEmpty)
  | .ref a => match h a with
    | some (.lst ds) => some (!ds.isEmpty)
    | _ => none
  | _ => none
def dTruth (t : DTE) : DTT := fun σ h Q => t σ h fun x h1 => match truD h1 x with
  | some b => Q b h1
  | none => False
theorem Reps.isEmpty {K : PySem.W.Frag} {H : Hp} {ds : List D} {vs : List V} (r : Reps K H ds vs) : vs.isEmpty = ds.isEmpty := by
  have := r.len
  cases ds <;> cases vs <;> simp_all
theorem dt_truth {X : Cx} {te : DTE} {e : Expr} (h : DE X e te) (he : ∀ whole, isTrue e X.env whole = (do let v ← whole; standAt e.pos; holding [v] (truthy v)) := by intro _; rfl) : DT X e (dTruth te) :=
  (pt_truth h he).imp fun σ H Q ⟨σD, h, QD, rs, q, p⟩ => by
    refine ⟨σD, h, _, rs, q, fun d1 h1 v1 H1 q1 rs1 r1 k1 => ?_⟩
    split at q1
    · rename_i b e1
      have fin : ∀ c, c = b → Q c H1 := fun c e => by subst e; exact p c h1 H1 q1 rs1 k1
      cases d1 with
      | non =>
        have r1 : v1 = .non := by simpa [Rep] using r1
        subst r1
        exact ⟨false, rfl, fin _ (Option.some.inj e1)⟩
      | bl c =>
        obtain rfl := rep_bl r1
        exact ⟨c, rfl, fin _ (Option.some.inj e1)⟩
      | int i =>
        obtain rfl := rep_int r1
        exact ⟨i != 0, rfl, fin _ (Option.some.inj e1)⟩
      | tup ds =>
        obtain ⟨a, vs, rfl, s, r⟩ := rep_tup r1
        exact ⟨!vs.isEmpty, .inr (.inl ⟨vs, s, rfl⟩), fin _ (by rw [r.isEmpty]; exact Option.some.inj e1)⟩
      | ref a =>
        obtain rfl := rep_ref r1
        have e3 : (match h1 a with
          | some (.lst ds) => some (!ds.isEmpty)
          | _ => none) = some b := e1
        split at e3
        · rename_i ds e2
          obtain ⟨vs, s, r⟩ := rs1.hr.sql e2
          exact ⟨!vs.isEmpty, .inl ⟨vs, s, rfl⟩, fin _ (by rw [r.isEmpty]; exact Option.some.inj e3)⟩
        · cases e3
      | str x => cases e1
      | ty n => cases e1
      | rol ds => cases e1
    · exact q1.elim
/-! ### a, b = a list of two -/
def dgUnl (n : Nat) (gs : DTGs) : DTG := fun d σ h Q => match itemsD h d with
  | some ds => (∃ a, d = .ref a) ∧ ds.length = n ∧ gs ds σ h Q
  | none => False
theorem dg_unl {X : Cx} {es : List Expr} {pos : Pos} {is : List Nat} {gs : DTGs} {k n : Nat} (hc : X.calm = true) (h : DGs X es is gs) (hn : (assignEach es X.env).length = n := by rfl) (hst : (assignEach es X.env).findIdx? (·.1) = none := by rfl) : DG X (.Tuple es k pos) is (dgUnl n gs) :=
  (pg_unl hc h hn hst).imp fun v σ H Q ⟨d, σD, h, QD, rs, r, q, p⟩ => by
    unfold dgUnl at q
    split at q
    · rename_i ds e
      obtain ⟨⟨a, rfl⟩, ln, q⟩ := q
      obtain rfl := rep_ref r
      obtain ⟨vs, s, r⟩ := rs.hr.sql (items_ref e)
      exact ⟨a, vs, rfl, s, by rw [← r.len]; exact ln, ds, σD, h, QD, rs, r, q, p⟩
    · exact q.elim
/-! ### a, b, c = x, y, z -/
def dPar3 (i j l : Nat) (ta : DTA) : DTS := fun D σ h => ta σ h fun ds h1 => match ds with
  | [d, e, f] => D.nx (((σ.set i (some d)).set j (some e)).set l (some f)) h1
  | _ => False
theorem ds_par3 {X : Cx} (i j l : Nat) {x y z : Str} {a b c : Expr} {ta : DTA} {px py pz pt pos : Pos} {kt k2 pt2} (hc : X.calm = true) (hN : X.N.Nodup) (hi : X.N[i]? = some x) (hj : X.N[j]? = some y) (hl : X.N[l]? = some z) (hij : i ≠ j) (hil : i ≠ l) (hjl : j ≠ l)
    (hx : X.env.scope.names.lookup x = some .local) (hy : X.env.scope.names.lookup y = some .local) (hz : X.env.scope.names.lookup z = some .local) (ha : DA X [a, b, c] ta)
    (hw : swappedStores [.Tuple [.Name x px, .Name y py, .Name z pz] kt pt] (.Tuple [a, b, c] k2 pt2) X.env = pure (some [x, y, z]))
    (hs : swapsWithSole [.Tuple [.Name x px, .Name y py, .Name z pz] kt pt] (.Tuple [a, b, c] k2 pt2) pos.line X.env = pure false := by rfl) :
    DSt X (.Assign [.Tuple [.Name x px, .Name y py, .Name z pz] kt pt] (.Tuple [a, b, c] k2 pt2) pos) (dPar3 i j l ta) :=
  (ps_par3 hc hN hi hj hl hij hil hjl hx hy hz ha hw hs).imp fun Ds σ H ⟨σD, h, DD, rs, q, p⟩ => by
    refine ⟨σD, h, _, rs, q, fun ds h1 vs H1 q1 rs1 r1 k1 => ?_⟩
    unfold dPar3 at *
    split at q1
    · rename_i d e f
      obtain ⟨v, w, u, rfl, rv, rw, ru⟩ := reps_three r1
      exact ⟨v, w, u, rfl, p.nx _ h1 _ H1 q1 ⟨SRep.set (show ORep X.K H1 (some f) (some u) from ru) (SRep.set (show ORep X.K H1 (some e) (some w) from rw) (SRep.set (show ORep X.K H1 (some d) (some v) from rv) rs1.sl)), rs1.hr⟩ k1⟩
    · exact q1.elim
end DL

namespace Pl
open K03
/-! ### what the curves' defs compute -/
/-- the places ahead of m, k left out -/
def oth (m k : Nat) : List Int := ((List.range m).filter fun o => decide (o ≠ k)).map fun o : Nat => (o : Int)
theorem oth_succ (m k : Nat) : oth (m + 1) k = if m = k then oth m k else oth m k ++ [(m : Int)] := by
  unfold oth
  rw [List.range_succ, List.filter_append]
  by_cases h : m = k
  · simp [h]
  · simp [h]
theorem oth_len (m k : Nat) : (oth m k).length ≤ m := by
  unfold oth
  rw [List.length_map]
  exact Nat.le_trans (List.length_filter_le _ _) (by simp)
theorem oth_rng (m k : Nat) : ∀ o ∈ oth m k, 0 ≤ o ∧ o < m := by
  intro o ho
  simp only [oth, List.mem_map, List.mem_filter, List.mem_range] at ho
  obtain ⟨j, ⟨hj, _⟩, rfl⟩ := ho
  omega
theorem px_fold (p x : Int) (k : Nat) : ∀ m, Eqp p ((oth m k).foldl (fun f o => f * ((x - o) % p) % p) 1) (px m k x)
  | 0 => .refl _ _
  | m + 1 => by
    have ih := px_fold p x k m
    rw [oth_succ]
    simp only [px]
    split
    · exact ih
    · rw [List.foldl_append]
      exact (Eqp.md p _).trans (ih.mul (Eqp.md p _))
theorem px_map (p x : Int) (k m : Nat) : Eqp p (((oth m k).map fun o => (x - o) % p).foldl (fun f y => f * y % p) 1) (px m k x) := by
  rw [List.foldl_map]; exact px_fold p x k m
theorem fold_rng {p : Int} (hp : 1 < p) : ∀ (l : List Int) (f : Int), 0 ≤ f → f < p → 0 ≤ l.foldl (fun f y => f * y % p) f ∧ l.foldl (fun f y => f * y % p) f < p
  | [], f, h1, h2 => ⟨h1, h2⟩
  | y :: l, f, _, _ => fold_rng hp l _ (Int.emod_nonneg _ (by omega)) (Int.emod_lt_of_pos _ (by omega))
/-- times (x - r) -/
def tr (p : Int) (fs : List Int) (r : Int) : List Int := List.zipWith (fun one other => (one - r * other) % p) (0 :: fs) (fs ++ [0])
theorem tr_len (p r : Int) (fs : List Int) : (tr p fs r).length = fs.length + 1 := by simp [tr]
theorem tr_ev0 (p r x : Int) : ∀ (fs : List Int) (c : Int), Eqp p (ev (List.zipWith (fun one other => (one - r * other) % p) (c :: fs) (fs ++ [0])) x) (c + (x - r) * ev fs x)
  | [], c => by
    simp only [List.nil_append, List.zipWith_cons_cons, List.zipWith_nil_left, ev]
    refine ((Eqp.md p _).add (.refl _ _)).trans (.rfl' (by simp))
  | f :: fs, c => by
    have ih := tr_ev0 p r x fs f
    simp only [List.cons_append, List.zipWith_cons_cons, ev]
    refine ((Eqp.md p _).add ((Eqp.refl p x).mul ih)).trans (.rfl' ?_)
    grind
theorem tr_ev (p r x : Int) (fs : List Int) : Eqp p (ev (tr p fs r) x) ((x - r) * ev fs x) := (tr_ev0 p r x fs 0).trans (.rfl' (by simp))
theorem tr_rng {p : Int} (hp : 0 < p) (r : Int) (fs : List Int) : ∀ y ∈ tr p fs r, 0 ≤ y ∧ y < p := by
  intro y hy
  obtain ⟨i, hi, e⟩ := List.getElem_of_mem hy
  simp only [tr, List.getElem_zipWith] at e
  rw [← e]
  exact ⟨Int.emod_nonneg _ (by omega), Int.emod_lt_of_pos _ hp⟩
/-- the part of place k: its factors -/
def part (p : Int) (m k : Nat) : List Int := (oth m k).foldl (tr p) [1]
theorem part_ev (p x : Int) (k : Nat) : ∀ m, Eqp p (ev (part p m k) x) (px m k x)
  | 0 => .rfl' (by simp [part, oth, px, ev])
  | m + 1 => by
    have ih := part_ev p x k m
    unfold part at ih ⊢
    rw [oth_succ]
    simp only [px]
    split
    · exact ih
    · rw [List.foldl_append]
      exact (tr_ev p m x _).trans (((Eqp.refl p _).mul ih).trans (.rfl' (Int.mul_comm _ _)))
theorem part_len (p : Int) (k : Nat) : ∀ m, (part p m k).length = if k < m then m else m + 1
  | 0 => by simp [part, oth]
  | m + 1 => by
    have ih := part_len p k m
    unfold part at ih ⊢
    rw [oth_succ]
    by_cases h : m = k
    · rw [if_pos h, ih, if_neg (by omega), if_pos (by omega)]
    · rw [if_neg h, List.foldl_append]
      show (tr p _ _).length = _
      rw [tr_len, ih]
      split <;> split <;> omega
theorem part_rng {p : Int} (hp : 1 < p) (m k : Nat) : ∀ y ∈ part p m k, 0 ≤ y ∧ y < p := by
  unfold part
  have : ∀ (l : List Int) (f : List Int), (∀ y ∈ f, 0 ≤ y ∧ y < p) → ∀ y ∈ l.foldl (tr p) f, 0 ≤ y ∧ y < p := by
    intro l
    induction l with
    | nil => intro f h; exact h
    | cons o l ih => intro f h; exact ih _ (tr_rng (by omega) o f)
  exact this _ _ (by intro y hy; simp at hy; omega)
def und (p : Int) (m k : Nat) : Int := (oth m k).foldl (fun f o => f * ((k : Int) - o) % p) 1
theorem und_px (p : Int) (k : Nat) : ∀ m, Eqp p (und p m k) (px m k k)
  | 0 => .refl _ _
  | m + 1 => by
    have ih := und_px p k m
    unfold und at ih ⊢
    rw [oth_succ]
    simp only [px]
    split
    · exact ih
    · rw [List.foldl_append]
      exact (Eqp.md p _).trans (ih.mul (.refl _ _))
def fac (p : Int) (vs : List Int) (k : Nat) : Int := vs.getD k 0 * ((und p vs.length k) ^ (p - 2).toNat % p) % p
def addF (p : Int) (c : Int) (a b : List Int) : List Int := List.zipWith (fun one more => (one + c * more) % p) a b
theorem addF_ev (p c x : Int) : ∀ a b : List Int, a.length = b.length → Eqp p (ev (addF p c a b) x) (ev a x + c * ev b x)
  | [], [], _ => .rfl' (by simp [addF, ev])
  | y :: a, z :: b, h => by
    have ih := addF_ev p c x a b (by simpa using h)
    simp only [addF, List.zipWith_cons_cons, ev] at ih ⊢
    refine ((Eqp.md p _).add ((Eqp.refl p x).mul ih)).trans (.rfl' ?_)
    grind
theorem addF_rng {p : Int} (hp : 0 < p) (c : Int) (a b : List Int) : ∀ y ∈ addF p c a b, 0 ≤ y ∧ y < p := by
  intro y hy
  obtain ⟨i, hi, e⟩ := List.getElem_of_mem hy
  simp only [addF, List.getElem_zipWith] at e
  rw [← e]
  exact ⟨Int.emod_nonneg _ (by omega), Int.emod_lt_of_pos _ hp⟩
def raw (p : Int) (vs : List Int) : Nat → List Int
  | 0 => List.replicate vs.length 0
  | k + 1 => addF p (fac p vs k) (raw p vs k) (part p vs.length k)
theorem raw_len (p : Int) (vs : List Int) : ∀ k, k ≤ vs.length → (raw p vs k).length = vs.length
  | 0, _ => by simp [raw]
  | k + 1, h => by
    have := part_len p k vs.length
    rw [if_pos (by omega)] at this
    simp only [raw, addF, List.length_zipWith, raw_len p vs k (by omega), this, Nat.min_self]
theorem raw_rng {p : Int} (hp : 0 < p) (vs : List Int) : ∀ k, ∀ y ∈ raw p vs k, 0 ≤ y ∧ y < p
  | 0 => by intro y hy; simp [raw] at hy; omega
  | k + 1 => addF_rng hp _ _ _
theorem ev_zeros (x : Int) : ∀ n, ev (List.replicate n 0) x = 0
  | 0 => rfl
  | n + 1 => by simp [List.replicate_succ, ev, ev_zeros x n]
theorem lagT_fac (p x : Int) (vs : List Int) (k : Nat) : Eqp p (fac p vs k * px vs.length k x) (lagT p vs.length k (vs.getD k 0) x) := by
  unfold fac lagT
  have h1 : Eqp p ((und p vs.length k) ^ (p - 2).toNat % p) ((px vs.length k k) ^ (p - 2).toNat) := (Eqp.md p _).trans (by
    generalize (p - 2).toNat = n
    induction n with
    | zero => exact .rfl' (by simp)
    | succ n ih => rw [Int.pow_succ, Int.pow_succ]; exact ih.mul (und_px p k vs.length))
  exact (((Eqp.md p _).trans ((Eqp.refl p _).mul h1)).mul (.refl _ _)).trans (.rfl' (by grind))
theorem raw_ev (p x : Int) (vs : List Int) : ∀ k, k ≤ vs.length → Eqp p (ev (raw p vs k) x) (((List.range k).map fun j => lagT p vs.length j (vs.getD j 0) x).sum)
  | 0, _ => .rfl' (by simp [raw, ev_zeros])
  | k + 1, h => by
    have ih := raw_ev p x vs k (by omega)
    have pl := part_len p k vs.length
    rw [if_pos (by omega)] at pl
    simp only [raw]
    refine (addF_ev p _ x _ _ (by rw [raw_len p vs k (by omega), pl])).trans ?_
    rw [List.range_succ, List.map_append, List.sum_append]
    refine ih.add ?_
    simp only [List.map_cons, List.map_nil, List.sum_cons, List.sum_nil]
    exact (((Eqp.refl p _).mul (part_ev p x k _)).trans (lagT_fac p x vs k)).trans (.rfl' (by simp))
def strip (l : List Int) : List Int := (l.reverse.dropWhile fun y => y == 0).reverse
theorem strip_snoc (l : List Int) (y : Int) : strip (l ++ [y]) = if y = 0 then strip l else l ++ [y] := by
  unfold strip
  rw [List.reverse_append, List.reverse_singleton, List.singleton_append, List.dropWhile_cons]
  by_cases h : y = 0
  · simp [h]
  · simp [h]
theorem snoc_of {α : Type} : ∀ l : List α, l = [] ∨ ∃ a y, l = a ++ [y]
  | [] => .inl rfl
  | x :: l => by
    right
    rcases snoc_of l with rfl | ⟨a, y, rfl⟩
    · exact ⟨[], x, rfl⟩
    · exact ⟨x :: a, y, rfl⟩
theorem ev_snoc (y x : Int) : ∀ l : List Int, ev (l ++ [y]) x = ev l x + x ^ l.length * y
  | [] => by simp [ev]
  | z :: l => by simp only [List.cons_append, ev, ev_snoc y x l, List.length_cons, Int.pow_succ]; grind
theorem strip_ev (x : Int) : ∀ (n : Nat) (l : List Int), l.length = n → ev (strip l) x = ev l x
  | n, l, h => by
    rcases snoc_of l with rfl | ⟨a, y, rfl⟩
    · rfl
    · rw [strip_snoc]
      by_cases hy : y = 0
      · rw [if_pos hy, ev_snoc, hy]
        have := strip_ev x a.length a rfl
        rw [this]; simp
      · rw [if_neg hy]
termination_by n => n
decreasing_by simp at h; omega
theorem strip_len : ∀ (n : Nat) (l : List Int), l.length = n → (strip l).length ≤ l.length
  | n, l, h => by
    rcases snoc_of l with rfl | ⟨a, y, rfl⟩
    · simp [strip]
    · rw [strip_snoc]
      by_cases hy : y = 0
      · rw [if_pos hy]
        have := strip_len a.length a rfl
        simp; omega
      · rw [if_neg hy]; exact Nat.le_refl _
termination_by n => n
decreasing_by simp at h; omega
theorem strip_mem {y : Int} {l : List Int} (h : y ∈ strip l) : y ∈ l := by
  unfold strip at h
  rw [List.mem_reverse] at h
  exact List.mem_reverse.mp ((List.dropWhile_sublist _).subset h)
theorem strip_last : ∀ (n : Nat) (l : List Int), l.length = n → strip l = [] ∨ ∃ a y, strip l = a ++ [y] ∧ y ≠ 0
  | n, l, h => by
    rcases snoc_of l with rfl | ⟨a, y, rfl⟩
    · left; rfl
    · rw [strip_snoc]
      by_cases hy : y = 0
      · rw [if_pos hy]
        exact strip_last a.length a rfl
      · rw [if_neg hy]; exact .inr ⟨a, y, rfl, hy⟩
termination_by n => n
decreasing_by simp at h; omega
/-- the factors of the curve through these values -/
def coF (p : Int) (vs : List Int) : List Int := strip (raw p vs vs.length)
theorem coF_ev (p x : Int) (vs : List Int) : Eqp p (ev (coF p vs) x) (lag p vs x) := by
  unfold coF
  rw [strip_ev x _ _ rfl]
  exact raw_ev p x vs vs.length (Nat.le_refl _)
theorem coF_len (p : Int) (vs : List Int) : (coF p vs).length ≤ vs.length := by
  have := strip_len _ (raw p vs vs.length) rfl
  rw [raw_len p vs _ (Nat.le_refl _)] at this
  exact this
theorem coF_rng {p : Int} (hp : 0 < p) (vs : List Int) : ∀ y ∈ coF p vs, 0 ≤ y ∧ y < p := fun y hy => raw_rng hp vs _ y (strip_mem hy)
/-! ### all points -/
def allP (p : Nat) : Nat → List (List Int)
  | 0 => [[]]
  | k + 1 => (allP p k).flatMap fun s => (List.range p).map fun x : Nat => s ++ [(x : Int)]
theorem allP_mem (p : Nat) : ∀ k, ∀ s ∈ allP p k, s.length = k ∧ ∀ x ∈ s, 0 ≤ x ∧ x < p
  | 0, s, h => by simp [allP] at h; subst h; simp
  | k + 1, s, h => by
    simp only [allP, List.mem_flatMap, List.mem_map, List.mem_range] at h
    obtain ⟨a, ha, x, hx, rfl⟩ := h
    obtain ⟨h1, h2⟩ := allP_mem p k a ha
    refine ⟨by simp [h1], fun y hy => ?_⟩
    rcases List.mem_append.mp hy with hy | hy
    · exact h2 y hy
    · obtain rfl := List.mem_singleton.mp hy; omega
theorem allP_len (p : Nat) : ∀ k, (allP p k).length = p ^ k
  | 0 => rfl
  | k + 1 => by
    simp only [allP, List.length_flatMap, List.length_map, List.length_range, List.map_const', List.sum_replicate_nat, allP_len p k, Nat.pow_succ]
theorem allP_cons (p : Nat) : ∀ k, allP p (k + 1) = (List.range p).flatMap fun x : Nat => (allP p k).map fun s => (x : Int) :: s
  | 0 => by
    have e : ∀ l : List Nat, (l.map fun x : Nat => ([] : List Int) ++ [(x : Int)]) = l.flatMap fun x : Nat => [[(x : Int)]] := by
      intro l
      induction l with
      | nil => rfl
      | cons x l ih => simp only [List.map_cons, List.flatMap_cons, ih]; rfl
    simpa [allP] using e (List.range p)
  | k + 1 => by
    have ih := allP_cons p k
    show (allP p (k + 1)).flatMap _ = _
    conv => lhs; rw [ih]
    rw [List.flatMap_assoc]
    congr 1
    funext x
    rw [List.flatMap_map]
    show _ = ((allP p k).flatMap _).map _
    rw [List.map_flatMap]
    congr 1
    funext s
    rw [List.map_map]; rfl
theorem allP_head (p : Nat) (hp : 0 < p) : ∀ k, (allP p k)[0]? = some (List.replicate k 0)
  | 0 => rfl
  | k + 1 => by
    have ih := allP_head p hp k
    obtain ⟨q, rfl⟩ : ∃ q, p = q + 1 := ⟨p - 1, by omega⟩
    show ((allP (q + 1) k).flatMap _)[0]? = _
    cases h : allP (q + 1) k with
    | nil => rw [h] at ih; simp at ih
    | cons s r =>
      rw [h] at ih
      simp only [List.getElem?_cons_zero, Option.some.injEq] at ih
      subst ih
      rw [List.flatMap_cons, List.range_succ_eq_map, List.map_cons, List.cons_append, List.getElem?_cons_zero, List.replicate_succ']
      simp
theorem E_zeros : ∀ (k : Nat) (t : List Int), t.length = 2 ^ k → E t (List.replicate k 0) = t.getD 0 0
  | 0, t, h => by
    match t, h with
    | [a], _ => simp [E]
  | k + 1, t, h => by
    rw [Nat.pow_succ] at h
    have h2 : 0 < 2 ^ k := Nat.two_pow_pos k
    have := E_zeros k (t.take (2 ^ k)) (by rw [List.length_take]; omega)
    simp only [List.replicate_succ, E, List.length_replicate, this]
    cases t with
    | nil => simp at h; omega
    | cons a t =>
      obtain ⟨q, hq⟩ : ∃ q, 2 ^ k = q + 1 := ⟨2 ^ k - 1, by omega⟩
      rw [hq]; simp
/-! ### unlike tables differ often -/
def Zt (p : Int) (t : List Int) : Prop := ∀ x ∈ t, Eqp p x 0
def mixT (x : Int) (lo hi : List Int) : List Int := List.zipWith (fun a b => (1 - x) * a + x * b) lo hi
theorem mixT_E (x : Int) : ∀ (xs lo hi : List Int), lo.length = 2 ^ xs.length → hi.length = 2 ^ xs.length → E (mixT x lo hi) xs = (1 - x) * E lo xs + x * E hi xs
  | [], lo, hi, h1, h2 => by
    match lo, hi, h1, h2 with
    | [a], [b], _, _ => simp [mixT, E]
  | y :: ys, lo, hi, h1, h2 => by
    simp only [List.length_cons, Nat.pow_succ] at h1 h2
    simp only [E]
    have t1 : (mixT x lo hi).take (2 ^ ys.length) = mixT x (lo.take (2 ^ ys.length)) (hi.take (2 ^ ys.length)) := by simp only [mixT, List.take_zipWith]
    have t2 : (mixT x lo hi).drop (2 ^ ys.length) = mixT x (lo.drop (2 ^ ys.length)) (hi.drop (2 ^ ys.length)) := by simp only [mixT, List.drop_zipWith]
    rw [t1, t2, mixT_E x ys _ _ (by rw [List.length_take]; omega) (by rw [List.length_take]; omega), mixT_E x ys _ _ (by rw [List.length_drop]; omega) (by rw [List.length_drop]; omega)]
    grind
/-- two numbers that both make the mixed table nothing: both halves are nothing -/
theorem mix_two {p : Int} (hp : Prm p) {x y : Int} (hxy : ¬ Eqp p (x - y) 0) : ∀ lo hi : List Int, lo.length = hi.length → Zt p (mixT x lo hi) → Zt p (mixT y lo hi) → Zt p lo ∧ Zt p hi
  | [], [], _, _, _ => ⟨by intro z hz; simp at hz, by intro z hz; simp at hz⟩
  | a :: lo, b :: hi, h, h1, h2 => by
    simp only [mixT, List.zipWith_cons_cons] at h1 h2
    have ih := mix_two hp hxy lo hi (by simpa using h) (fun z hz => h1 z (List.mem_cons_of_mem _ hz)) (fun z hz => h2 z (List.mem_cons_of_mem _ hz))
    have e1 := h1 _ List.mem_cons_self
    have e2 := h2 _ List.mem_cons_self
    have d : Eqp p ((x - y) * (b - a)) 0 := by
      obtain ⟨k, e1⟩ := e1
      obtain ⟨l, e2⟩ := e2
      exact ⟨k - l, by grind⟩
    have hab := (hp.2 _ _ d).resolve_left hxy
    have ha : Eqp p a 0 := by
      obtain ⟨k, e1⟩ := e1
      obtain ⟨l, e⟩ := hab
      exact ⟨k - x * l, by grind⟩
    have hb : Eqp p b 0 := by
      obtain ⟨k, e1⟩ := ha
      obtain ⟨l, e⟩ := hab
      exact ⟨k + l, by grind⟩
    refine ⟨fun z hz => ?_, fun z hz => ?_⟩
    · rcases List.mem_cons.mp hz with rfl | hz
      · exact ha
      · exact ih.1 z hz
    · rcases List.mem_cons.mp hz with rfl | hz
      · exact hb
      · exact ih.2 z hz
def nz (p : Int) (t : List Int) (s : List Int) : Bool := !(E t s % p == 0)
theorem countP_flat {α β : Type} (q : β → Bool) (f : α → List β) : ∀ l : List α, (l.flatMap f).countP q = (l.map fun x => (f x).countP q).sum
  | [] => rfl
  | x :: l => by simp only [List.flatMap_cons, List.countP_append, List.map_cons, List.sum_cons, countP_flat q f l]
theorem sum_ge (f : Nat → Nat) (c : Nat) (bad : Nat → Prop) (h : ∀ x, ¬ bad x → c ≤ f x) : ∀ l : List Nat, l.Pairwise (fun x y => ¬ (bad x ∧ bad y)) → (l.length - 1) * c ≤ (l.map f).sum
  | [], _ => by simp
  | x :: l, d => by
    have dp := List.pairwise_cons.mp d
    simp only [List.map_cons, List.sum_cons, List.length_cons, Nat.add_sub_cancel]
    by_cases hx : bad x
    · have all : ∀ l : List Nat, (∀ y ∈ l, ¬ bad y) → l.length * c ≤ (l.map f).sum := by
        intro l
        induction l with
        | nil => intro _; simp
        | cons y l ih =>
          intro g
          have := ih fun z hz => g z (List.mem_cons_of_mem _ hz)
          have := h y (g y List.mem_cons_self)
          simp only [List.map_cons, List.sum_cons, List.length_cons, Nat.add_mul]
          omega
      have := all l fun y hy hb => dp.1 y hy ⟨hx, hb⟩
      omega
    · have ih := sum_ge f c bad h l dp.2
      have := h x hx
      cases l with
      | nil => simp
      | cons y l =>
        simp only [List.length_cons, Nat.add_sub_cancel, Nat.add_mul] at ih ⊢
        omega
theorem nz_many {p : Nat} (hp : Prm (p : Int)) : ∀ (k : Nat) (t : List Int), t.length = 2 ^ k → ¬ Zt p t → (p - 1) ^ k ≤ (allP p k).countP (nz p t)
  | 0, t, h, z => by
    match t, h with
    | [a], _ =>
      have : nz p [a] [] = true := by
        simp only [nz, E, List.headD_cons, Bool.not_eq_true', beq_eq_false_iff_ne, ne_eq]
        intro e
        exact z fun x hx => by
          obtain rfl := List.mem_singleton.mp hx
          exact .of_mod (by simpa using e)
      simp [allP, this]
  | k + 1, t, h, z => by
    rw [Nat.pow_succ] at h
    have hlo : (t.take (2 ^ k)).length = 2 ^ k := by rw [List.length_take]; omega
    have hhi : (t.drop (2 ^ k)).length = 2 ^ k := by rw [List.length_drop]; omega
    rw [allP_cons, countP_flat]
    have key := sum_ge (fun x => ((allP p k).map fun s => (x : Int) :: s).countP (nz p t)) ((p - 1) ^ k) (fun x => Zt p (mixT (x : Int) (t.take (2 ^ k)) (t.drop (2 ^ k)))) (fun x hx => ?_) (List.range p) ?_
    · rw [List.length_range] at key
      rw [Nat.pow_succ, Nat.mul_comm]; exact key
    · have := nz_many hp k _ (by simp only [mixT, List.length_zipWith]; omega) hx
      rw [List.countP_map]
      refine Nat.le_trans this (Nat.le_of_eq ?_)
      apply List.countP_congr
      intro s hs
      have hl := (allP_mem p k s hs).1
      have e := mixT_E (x : Int) s (t.take (2 ^ k)) (t.drop (2 ^ k)) (by rw [hl]; exact hlo) (by rw [hl]; exact hhi)
      simp only [Function.comp_def, nz, E, hl, e]
    · refine List.Pairwise.imp_of_mem (R := fun a b => a ≠ b) ?_ (List.nodup_range (n := p))
      intro a b ha hb hab ⟨h1, h2⟩
      have := List.mem_range.mp ha
      have := List.mem_range.mp hb
      have := mix_two hp (x := a) (y := b) (small_ne (by omega) (by omega) (by omega)) _ _ (hlo.trans hhi.symm) h1 h2
      refine z fun x hx => ?_
      rw [← List.take_append_drop (2 ^ k) t] at hx
      rcases List.mem_append.mp hx with hx | hx
      · exact this.1 x hx
      · exact this.2 x hx
end Pl
namespace DL
open PySem PySem.Spec L2
open PyProof.Rows hiding St
abbrev NL (ns : List Nat) : List D := ns.map fun k => D.int (k : Nat)
theorem NL_get {ns : List Nat} {i : Nat} {d : D} (e : (NL ns)[i]? = some d) : ∃ x, ns[i]? = some x ∧ d = .int (x : Nat) := by
  simp only [List.getElem?_map, Option.map_eq_some_iff] at e
  obtain ⟨x, hx, rfl⟩ := e
  exact ⟨x, hx, rfl⟩
theorem ix_at {ds : List D} {i : Nat} {x : D} {h : DH} {Q : DK} (e : ds[i]? = some x) (q : Q x h) : rIx (.tup ds) (.int (i : Nat)) h Q := DL.ix_tup (by omega) (by rw [Int.toNat_natCast]; exact e) q
theorem getD_some {xs : List Int} {i : Nat} (h : i < xs.length) : (IL xs)[i]? = some (.int (xs.getD i 0)) := by simp [h]
theorem ixN_last (n : Nat) : ixN (n + 1) (-1) = some n := by
  unfold ixN
  rw [if_neg (by decide), if_pos (by omega)]
  congr 1; omega
theorem atI_last {α : Type} (xs : List α) (x : α) : atI (xs ++ [x]) (-1) = some x := by
  unfold atI
  rw [List.length_append, List.length_singleton, ixN_last]
  simp
theorem ix_last_ref {h : DH} {Q : DK} {a : Addr} {xs : List D} {x : D} (e : h a = some (.lst (xs ++ [x]))) (q : Q x h) : rIx (.ref a) (.int (-1)) h Q := by
  unfold rIx
  simp only [items_lst e, atI_last]
  exact q
theorem ix_last_tup {h : DH} {Q : DK} {xs : List D} {x : D} (q : Q x h) : rIx (.tup (xs ++ [x])) (.int (-1)) h Q := by
  unfold rIx
  simp only [itemsD, atI_last]
  exact q
theorem pop_ref {h : DH} {Q : DK} {a : Addr} {xs : List D} {x : D} (e : h a = some (.lst (xs ++ [x]))) (q : Q x (updD h a (.lst xs))) : rPopD (.ref a) [] h Q := by
  unfold rPopD
  simp only [e, List.length_append, List.length_singleton, Nat.add_sub_cancel, List.getElem?_concat_length, List.dropLast_concat]
  exact q
theorem rep_ref0 {h : DH} {Q : DK} {a : Addr} {x : D} {n : Nat} (e : h a = some (.lst [x])) (hn : n ≤ 1000000) (q : ∀ p, h p = none → Q (.ref p) (updD h p (.lst (List.replicate n x)))) : rMulD (.ref a) (.int (n : Nat)) h Q := by
  have e2 : (List.replicate n [x]).flatten = List.replicate n x := by
    clear hn q
    induction n with
    | zero => rfl
    | succ n ih => simp only [List.replicate_succ, List.flatten_cons, ih]; rfl
  simp only [rMulD, e]
  refine ⟨⟨by omega, by omega, le_size (by simp; omega)⟩, ?_⟩
  rw [Int.toNat_natCast, e2]; exact q
theorem eqvAll_ints : ∀ a b : List Int, PyData.eqvAll (a.map .int) (b.map .int) = decide (a = b)
  | [], [] => rfl
  | [], _ :: _ => rfl
  | _ :: _, [] => rfl
  | x :: a, y :: b => by
    simp only [List.map_cons, PyData.eqvAll, PyData.eqv, eqvAll_ints a b]
    by_cases h : x = y <;> by_cases g : a = b <;> simp [h, g]
theorem rEqU_ints {a b : List Int} {h : DH} {Q : DK} (q : Q (.bl (decide (a = b))) h) : rEqU (.tup (IL a)) (.tup (IL b)) h Q := by
  unfold rEqU
  rw [pyD_ints _ 10, pyD_ints _ 10]
  refine ⟨shaped_tuple _, shaped_tuple _, ?_⟩
  rw [show PyData.eqv (.tuple (a.map .int)) (.tuple (b.map .int)) = PyData.eqvAll (a.map .int) (b.map .int) from rfl, eqvAll_ints]
  exact q
theorem rNeU_ints {a b : List Int} {h : DH} {Q : DK} (q : Q (.bl (!decide (a = b))) h) : rNeU (.tup (IL a)) (.tup (IL b)) h Q := by
  unfold rNeU
  rw [pyD_ints _ 10, pyD_ints _ 10]
  refine ⟨shaped_tuple _, shaped_tuple _, ?_⟩
  rw [show PyData.eqv (.tuple (a.map .int)) (.tuple (b.map .int)) = PyData.eqvAll (a.map .int) (b.map .int) from rfl, eqvAll_ints]
  exact q
theorem rNeU_lists {a b : Addr} {ns : List Int} {h : DH} {Q : DK} (e1 : h a = some (.lst (IL ns))) (e2 : h b = some (.lst (IL ns))) (q : Q (.bl false) h) : rNeU (.ref a) (.ref b) h Q :=
  rNeU_same (pyD_ref 10 e1) (pyD_ref 10 e2) (shaped_list _) q
/-- pairs of ints -/
theorem lc_pairs {ti : DTI} {te : DTE} {vs : List Nat} {σ : DS} {h h1 : DH} {Q : List D → DH → Prop} {a b : List Int} {stay : DH → Prop} {g : DTG} (f : Int → Int → Int) (hi : ∀ R : List D → (DH → Prop) → DH → Prop, R (zipD (IL a) (IL b)) stay h1 → ti σ h R) (hst : stay h1) (hz : a.length ≤ 65536)
    (turn : ∀ (x y : Int) (Q : DK), x ∈ a → y ∈ b → Q (.int (f x y)) h1 → g (.tup [.int x, .int y]) (dwipe σ vs) h1 fun σ2 h2 => te σ2 h2 Q) (done : Q (IL (List.zipWith f a b)) h1) : dLc ti g dYes te vs σ h Q := by
  refine lc_map (its := zipD (IL a) (IL b)) (h1 := h1) (stay := stay) (fun _ d => (fun d => match d with
    | .tup [.int x, .int y] => D.int (f x y)
    | _ => .non) d) hi hst (le_size (by rw [zipD_len]; simp; omega)) ?_ ?_
  · intro i d Q hd q
    obtain ⟨x, y, hx, hy, rfl⟩ := zipD_some hd
    obtain ⟨x, hx', rfl⟩ := IL_get hx
    obtain ⟨y, hy', rfl⟩ := IL_get hy
    exact turn x y Q (List.mem_of_getElem? hx') (List.mem_of_getElem? hy') q
  · have e : ∀ (a b : List Int), (zipD (IL a) (IL b)).mapIdx (fun _ d => (fun d => match d with
      | .tup [.int x, .int y] => D.int (f x y)
      | _ => .non) d) = IL (List.zipWith f a b) := by
      intro a b
      rw [mapIdx_const]
      induction a generalizing b with
      | nil => simp [zipD]
      | cons x a ih =>
        cases b with
        | nil => simp [zipD]
        | cons y b =>
          have := ih b
          simpa [zipD] using this
    rw [e]; exact done
theorem lc_dep {ti : DTI} {g : DTG} {te : DTE} {vs : List Nat} {σ : DS} {h : DH} {Q : List D → DH → Prop} (Good : DH → (DH → Prop) → Prop) {its : List D} (f : Nat → D → D) (hi : ∀ R : List D → (DH → Prop) → DH → Prop, (∀ h1 stay, Good h1 stay → R its stay h1) → ti σ h R) (hst : ∀ h1 stay, Good h1 stay → stay h1) (hz : its.length ≤ sizeLine)
    (turn : ∀ h1 stay, Good h1 stay → ∀ (i : Nat) (d : D) (Q : DK), its[i]? = some d → Q (f i d) h1 → g d (dwipe σ vs) h1 fun σ2 h2 => te σ2 h2 Q) (done : ∀ h1 stay, Good h1 stay → Q (its.mapIdx f) h1) : dLc ti g dYes te vs σ h Q :=
  hi _ fun h1 stay gd => lc_map (ti := fun _ _ R => R its stay h1) (g := g) (te := te) (vs := vs) (σ := σ) (h := h) f (fun R r => r) (hst h1 stay gd) hz (turn h1 stay gd) (done h1 stay gd)
/-- a comprehension with a test; nothing that is told changes -/
theorem lc_flt {ti : DTI} {g : DTG} {tt : DTT} {te : DTE} {vs : List Nat} {σ : DS} {h h1 : DH} {Q : List D → DH → Prop} {its : List D} {stay : DH → Prop} (keep : D → Bool) (f : D → D) (hi : ∀ R : List D → (DH → Prop) → DH → Prop, R its stay h1 → ti σ h R) (hst : stay h1) (hz : its.length ≤ sizeLine)
    (turn : ∀ (d : D) (Qt : DK) (Qf : DH → Prop), d ∈ its → (keep d = true → Qt (f d) h1) → (keep d = false → Qf h1) → g d (dwipe σ vs) h1 fun σ2 h2 => tt σ2 h2 fun b h3 => if b = true then te σ2 h3 Qt else Qf h3) (done : Q ((its.filter keep).map f) h1) : dLc ti g tt te vs σ h Q := by
  refine lc_mk hi (fun i acc h => h = h1 ∧ acc = ((its.take i).filter keep).map f) ⟨rfl, by simp⟩ (fun i acc h e => by rw [e.1]; exact hst) ?_ ?_
  · rintro i d acc _ e ⟨rfl, rfl⟩
    have hlt : i < its.length := (List.getElem?_eq_some_iff.mp e).1
    have tk := take_next e
    have ln : (((its.take i).filter keep).map f).length ≤ i := by
      rw [List.length_map]
      refine Nat.le_trans (List.length_filter_le _ _) ?_
      rw [List.length_take]; omega
    refine turn d _ _ (List.mem_of_getElem? e) (fun k => ⟨by omega, rfl, ?_⟩) (fun k => ⟨rfl, ?_⟩)
    · rw [tk]; simp [k]
    · rw [tk]; simp [k]
  · rintro acc _ ⟨rfl, rfl⟩
    rw [List.take_length]; exact done
/-- by a range -/
theorem lc_frng {ti : DTI} {g : DTG} {tt : DTT} {te : DTE} {vs : List Nat} {σ : DS} {h h1 : DH} {Q : List D → DH → Prop} (n : Nat) (keep : Nat → Bool) (f : Nat → D) (hi : ∀ R : List D → (DH → Prop) → DH → Prop, R (rngD 0 n) (fun _ => True) h1 → ti σ h R) (hz : n ≤ 16777216)
    (turn : ∀ (i : Nat) (Qt : DK) (Qf : DH → Prop), i < n → (keep i = true → Qt (f i) h1) → (keep i = false → Qf h1) → g (.int (i : Nat)) (dwipe σ vs) h1 fun σ2 h2 => tt σ2 h2 fun b h3 => if b = true then te σ2 h3 Qt else Qf h3) (done : Q (((List.range n).filter keep).map f) h1) : dLc ti g tt te vs σ h Q := by
  have e0 : rngD 0 n = (List.range n).map fun i : Nat => D.int (i : Nat) := by
    apply List.ext_getElem?
    intro j
    by_cases hj : j < n
    · simp [rngD_get hj, hj]
    · rw [List.getElem?_eq_none (by simp [rngD_len]; omega), List.getElem?_eq_none (by simp; omega)]
  refine lc_flt (its := rngD 0 n) (h1 := h1) (stay := fun _ => True) (fun d => match d with
    | .int i => keep i.toNat
    | _ => false) (fun d => match d with
    | .int i => f i.toNat
    | _ => .non) hi trivial (le_size (by rw [rngD_len]; exact hz)) ?_ ?_
  · intro d Qt Qf hd qt qf
    rw [e0] at hd
    obtain ⟨i, hi, rfl⟩ := List.mem_map.mp hd
    exact turn i Qt Qf (List.mem_range.mp hi) (by simpa using qt) (by simpa using qf)
  · rw [e0, List.filter_map, List.map_map]
    exact done
/-- a map over what stands at an address or in a tuple, by its items -/
theorem mapIdx_map {α : Type} (f : α → D) (g : α → D) (k : Nat → D → D) (l : List α) (h : ∀ i x, l[i]? = some x → k i (f x) = g x) : (l.map f).mapIdx k = l.map g := by
  apply List.ext_getElem?
  intro j
  cases hj : l[j]? with
  | none => simp [hj]
  | some x => simp [hj, h j x hj]
theorem lc_of {α : Type} {ti : DTI} {g : DTG} {te : DTE} {vs : List Nat} {σ : DS} {h h1 : DH} {Q : List D → DH → Prop} {stay : DH → Prop} (l : List α) (f : α → D) (r : α → D) (hi : ∀ R : List D → (DH → Prop) → DH → Prop, R (l.map f) stay h1 → ti σ h R) (hst : stay h1) (hz : l.length ≤ 16777216)
    (turn : ∀ (x : α) (Q : DK), x ∈ l → Q (r x) h1 → g (f x) (dwipe σ vs) h1 fun σ2 h2 => te σ2 h2 Q) (done : Q (l.map r) h1) : dLc ti g dYes te vs σ h Q := by
  refine lc_mk hi (fun i acc h => h = h1 ∧ acc = (l.take i).map r) ⟨rfl, by simp⟩ (fun i acc h e => by rw [e.1]; exact hst) ?_ ?_
  · rintro i d acc _ e ⟨rfl, rfl⟩
    simp only [List.getElem?_map, Option.map_eq_some_iff] at e
    obtain ⟨x, hx, rfl⟩ := e
    have hlt : i < l.length := (List.getElem?_eq_some_iff.mp hx).1
    refine turn x _ (List.mem_of_getElem? hx) ⟨lt_size (by simp; omega), rfl, ?_⟩
    rw [take_next hx]; simp
  · rintro acc _ ⟨rfl, rfl⟩
    rw [List.length_map, List.take_length]; exact done
/-- with a test -/
theorem lc_fof {α : Type} {ti : DTI} {g : DTG} {tt : DTT} {te : DTE} {vs : List Nat} {σ : DS} {h h1 : DH} {Q : List D → DH → Prop} {stay : DH → Prop} (l : List α) (f : α → D) (keep : α → Bool) (r : α → D) (hi : ∀ R : List D → (DH → Prop) → DH → Prop, R (l.map f) stay h1 → ti σ h R) (hst : stay h1) (hz : l.length ≤ 16777215)
    (turn : ∀ (x : α) (Qt : DK) (Qf : DH → Prop), x ∈ l → (keep x = true → Qt (r x) h1) → (keep x = false → Qf h1) → g (f x) (dwipe σ vs) h1 fun σ2 h2 => tt σ2 h2 fun b h3 => if b = true then te σ2 h3 Qt else Qf h3) (done : Q ((l.filter keep).map r) h1) : dLc ti g tt te vs σ h Q := by
  refine lc_mk hi (fun i acc h => h = h1 ∧ acc = ((l.take i).filter keep).map r) ⟨rfl, by simp⟩ (fun i acc h e => by rw [e.1]; exact hst) ?_ ?_
  · rintro i d acc _ e ⟨rfl, rfl⟩
    simp only [List.getElem?_map, Option.map_eq_some_iff] at e
    obtain ⟨x, hx, rfl⟩ := e
    have hlt : i < l.length := (List.getElem?_eq_some_iff.mp hx).1
    have tk := take_next hx
    have ln : (((l.take i).filter keep).map r).length ≤ i := by
      rw [List.length_map]
      refine Nat.le_trans (List.length_filter_le _ _) ?_
      rw [List.length_take]; omega
    refine turn x _ _ (List.mem_of_getElem? hx) (fun k => ⟨lt_size (by omega), rfl, ?_⟩) (fun k => ⟨rfl, ?_⟩)
    · rw [tk]; simp [k]
    · rw [tk]; simp [k]
  · rintro acc _ ⟨rfl, rfl⟩
    rw [List.length_map, List.take_length]; exact done
end DL

namespace DL
open PySem PySem.Spec L2
open PyProof.Rows hiding St
/-! ### tuples and dicts of the module -/
/-- written ints and texts -/
def LitsOk : List D → List Value → Prop
  | [], [] => True
  | .int i :: ds, v :: vs => (∃ t, v = .int i t) ∧ LitsOk ds vs
  | .str x :: ds, v :: vs => (∃ t, v = .str x t) ∧ LitsOk ds vs
  | _, _ => False
def litV : D → V
  | .int i => .int i
  | .str x => .str x
  | _ => .non
theorem LitsOk.reps {K : PySem.W.Frag} {H : Hp} : ∀ {ds : List D} {vs : List Value}, LitsOk ds vs → Reps K H ds (ds.map litV) ∧ Vals (ds.map litV) vs
  | [], [], _ => ⟨by simp [Reps], .nil⟩
  | .int i :: ds, v :: vs, ⟨⟨t, e⟩, r⟩ => by
    subst e
    obtain ⟨a, b⟩ := LitsOk.reps (K := K) (H := H) r
    exact ⟨by simp only [List.map_cons]; unfold Reps; exact ⟨_, _, rfl, by simp [Rep, litV], a⟩, .cons ⟨t, rfl⟩ b⟩
  | .str x :: ds, v :: vs, ⟨⟨t, e⟩, r⟩ => by
    subst e
    obtain ⟨a, b⟩ := LitsOk.reps (K := K) (H := H) r
    exact ⟨by simp only [List.map_cons]; unfold Reps; exact ⟨_, _, rfl, by simp [Rep, litV], a⟩, .cons ⟨t, rfl⟩ b⟩
  | [], _ :: _, h => h.elim
  | .int _ :: _, [], h => h.elim
  | .str _ :: _, [], h => h.elim
  | .non :: _, _, h => by cases ‹List Value› <;> exact h.elim
  | .bl _ :: _, _, h => by cases ‹List Value› <;> exact h.elim
  | .ty _ :: _, _, h => by cases ‹List Value› <;> exact h.elim
  | .tup _ :: _, _, h => by cases ‹List Value› <;> exact h.elim
  | .rol _ :: _, _, h => by cases ‹List Value› <;> exact h.elim
  | .ref _ :: _, _, h => by cases ‹List Value› <;> exact h.elim
theorem lit_tup {K : PySem.W.Frag} {a : Addr} {ds : List D} {its : Array Value} {dd : Option Addr} {n : Nat} {sl : Array (Option Value)} (hl : K.lookup a = some ⟨.type "tuple", dd, .seq its n, sl⟩) (h : LitsOk ds its.toList) (hz : ds.length ≤ 1000) (H : Hp) : Rep K H (.tup ds) (.ref a) := by
  obtain ⟨r, v⟩ := h.reps (K := K) (H := H)
  have hs : its.size ≤ sizeLine := by
    have := v.length
    rw [List.length_map] at this
    have e : its.toList.length = its.size := Array.length_toList
    exact Nat.le_trans (by omega) (show 1000 ≤ sizeLine by decide)
  unfold Rep
  exact ⟨a, _, rfl, .inr ⟨_, its, n, hl, rfl, rfl, hs, v⟩, r⟩
/-- a module's name stands for this -/
def GVal (K : PySem.W.Frag) (mg : Str → Option Value) (x : Str) (d : D) : Prop := ∃ u v, mg x = some u ∧ RelV v u ∧ ∀ H, Rep K H d v
theorem de_gval {X : Cx} {x : Str} {pos : Pos} {d : D} (hg : Gl X x) (hm : GVal X.K X.mg x d) (hd : (x == ("__debug__" : Str)) = false := by decide) : DE X (.Name x pos) (dC d) := by
  obtain ⟨u, v, hm, r, rd⟩ := hm
  exact de_glob hg hm r rd hd
/-- a module's dict with texts as keys -/
def GDct (w : World) (K : PySem.W.Frag) (mg : Str → Option Value) (x : Str) (kvs : List (Str × D)) : Prop := ∃ a, mg x = some (.ref a) ∧ (a == sysModules) = false ∧ (∃ es n, K.lookup a = some ⟨.type "dict", none, .dict es n, #[]⟩ ∧ PySem.W.KeysLit w.params es.toList) ∧
  ∀ k d, kvs.lookup k = some d → ∃ u v, PySem.W.nsIn K a k = some (some u) ∧ RelV v u ∧ ∀ H, Rep K H d v
def GKvs (K : PySem.W.Frag) (a : Addr) : List (Str × D) → Prop
  | [] => True
  | p :: r => (∃ u v, PySem.W.nsIn K a p.1 = some (some u) ∧ RelV v u ∧ ∀ H, Rep K H p.2 v) ∧ GKvs K a r
theorem GKvs.get {K : PySem.W.Frag} {a : Addr} : ∀ {kvs : List (Str × D)}, GKvs K a kvs → ∀ k d, kvs.lookup k = some d → ∃ u v, PySem.W.nsIn K a k = some (some u) ∧ RelV v u ∧ ∀ H, Rep K H d v
  | [], _, k, d, e => by cases e
  | (k0, d0) :: r, ⟨h, g⟩, k, d, e => by
    rw [List.lookup_cons] at e
    split at e
    · rename_i q
      cases e
      have : k = k0 := by simpa using q
      subst this
      exact h
    · exact GKvs.get g k d e
theorem gdct_mk {w : World} {K : PySem.W.Frag} {mg : Str → Option Value} {x : Str} {kvs : List (Str × D)} {a : Addr} {es : Array DictEntry} {n : Nat} (hm : mg x = some (.ref a)) (lo : (a == sysModules) = false) (hl : K.lookup a = some ⟨.type "dict", none, .dict es n, #[]⟩) (hk : PySem.W.KeysLit w.params es.toList) (g : GKvs K a kvs) : GDct w K mg x kvs :=
  ⟨a, hm, lo, ⟨es, n, hl, hk⟩, g.get⟩
/-- D.get(k, x), k there -/
def dGGet2 (kvs : List (Str × D)) (ti tf : DTE) : DTE := fun σ h Q => ti σ h fun y h1 => tf σ h1 fun _ h2 => match y with
  | .str k => match kvs.lookup k with
    | some d => Q d h2
    | none => False
  | _ => False
theorem de_gget2 {X : Cx} {x : Str} {i f : Expr} {ti tf : DTE} {kvs : List (Str × D)} {p apos pos : Pos} (hg : Gl X x) (G : GDct X.w X.K X.mg x kvs) (hi : DE X i ti) (hf : DE X f tf) (m : M2 X (.Name x p) "get" apos i f pos) (hd : (x == ("__debug__" : Str)) = false := by decide) :
    DE X (.Call (.Attribute (.Name x p) "get" apos) [i, f] [] pos) (dGGet2 kvs ti tf) := by
  obtain ⟨a, hm, lo, ⟨es, n, hl, hk⟩, g⟩ := G
  refine ⟨fun pins s σ H Q I hq => ?_⟩
  obtain ⟨σD, h, QD, rs, q, pp⟩ := hq
  refine wpAny_Call_method m.base m.few m.line PySem.F.plainAttrs_dict PySem.F.slot_dict_get PySem.F.type_dict_get (thn ((pe_glob (v := .ref a) (pos := p) hg hm rfl hd).run pins s σ H (fun v H1 => v = .ref a ∧ H1 = H) I ⟨rfl, rfl⟩) fun u s1 ⟨v, H1, I1, rx, ev, eH⟩ => ?_)
  subst ev eH
  obtain rfl : u = Value.ref a := rx
  have mo : ∀ {s2 : Shared} {H2 : Hp}, Inv X pins σ H2 s2 → s2.heap.MapOf (strKind X.prog X.w) a (fun k => findBy Value.isStrOf es k) := fun I2 => PySem.W.mapOf_K (prog := X.prog) (w := X.w) I2.kIn hl hk
  refine ⟨(mo I1).typeIs, fun b e => ?_, ?_⟩
  · cases e
    exact ⟨_, I1.kIn _ _ hl, rfl⟩
  rw [m.trees]
  have le : LE X.K ti σ H1 (fun y H2 => LE X.K tf σ H2 fun z H3 => ∃ k d, y = .str k ∧ kvs.lookup k = some d ∧ ∀ v, Rep X.K H3 d v → Q v H3) := by
    refine ⟨σD, h, _, rs, q, fun d1 h1 v1 H2 q1 rs1 r1 k1 => ⟨σD, h1, _, rs1, q1, fun d2 h2 v2 H3 q2 rs2 r2 k2 => ?_⟩⟩
    split at q2
    · rename_i k
      obtain rfl := rep_str r1
      split at q2
      · rename_i d e
        exact ⟨k, d, rfl, e, fun v rv => pp d h2 v H3 q2 rs2 rv (k1.trans k2)⟩
      · exact q2.elim
    · exact q2.elim
  refine Calls.callWith_builtin rfl (Calls.evalArgs_plain (Calls.spliced_cons (thn (hi.run pins s1 σ H1 _ I1 le) fun iv s2 ⟨y, H2, I2, ry, q2⟩ =>
    Calls.spliced_cons (thn (hf.run pins s2 σ H2 _ I2 q2) fun fv s3 ⟨z, H3, I3, rz, k, d, ey, e, q3⟩ => Calls.spliced_nil ?_))))
  subst ey
  obtain ⟨t, rfl⟩ := (show ∃ t, iv = Value.str k t from ry)
  obtain ⟨u, v, hn, rv, rd⟩ := g k d e
  refine call_meetsIn PySem.F.slot_dict_get (mo I3).typeIs PySem.F.entry_dict_get (PySem.F.args_dict_get_3 _ _ _) (meets_dict_get_default (strKind X.prog X.w) a (strKind_is X.prog X.w k t) lo fv) ⟨_, mo I3, ?_⟩
  rw [PySem.W.find_K hl hn]
  exact ⟨v, H3, I3.tok _, rv, q3 v (rd H3)⟩
/-- D[k] -/
def dGIx (kvs : List (Str × D)) (ti : DTE) : DTE := fun σ h Q => ti σ h fun y h1 => match y with
  | .str k => match kvs.lookup k with
    | some d => Q d h1
    | none => False
  | _ => False
theorem de_gix {X : Cx} {x : Str} {i : Expr} {ti : DTE} {kvs : List (Str × D)} {p pos : Pos} (hg : Gl X x) (G : GDct X.w X.K X.mg x kvs) (hi : DE X i ti) (hs : PlainIx i := by exact fun _ _ => rfl) (hd : (x == ("__debug__" : Str)) = false := by decide) :
    DE X (.Subscript (.Name x p) i pos) (dGIx kvs ti) := by
  obtain ⟨a, hm, lo, ⟨es, n, hl, hk⟩, g⟩ := G
  refine PE.imp (pe_ix (X := X) ix_kdict (pe_glob (v := .ref a) (pos := p) hg hm rfl hd) hi hs) fun σ H Q ⟨σD, h, QD, rs, q, pp⟩ => ?_
  show LE X.K ti σ H _
  refine ⟨σD, h, _, rs, q, fun d1 h1 v1 H1 q1 rs1 r1 k1 => ?_⟩
  split at q1
  · rename_i k
    obtain rfl := rep_str r1
    split at q1
    · rename_i d e
      obtain ⟨u, v, hn, rv, rd⟩ := g k d e
      exact ⟨a, k, v, rfl, rfl, ⟨es, n, u, hl, hk, hn, rv⟩, pp d h1 v H1 q1 rs1 (rd H1) k1⟩
    · exact q1.elim
  · exact q1.elim
end DL
namespace DL
open PySem PySem.Spec L2
open PyProof.Rows hiding St
/-! ### tuple(zip(a, b)) -/
section
variable {X : Cx} {pins : List (Addr × Obj)} {σ : L2.St} {t1 t2 : Bool} {a b z TI TO i1 i2 : Addr} {xs ys : List V}
theorem collect_zip {A : Around} {E : Value → Shared → Prop} {Q : List Value → Shared → Prop} {s : Shared} {H : Hp} (S : ZipSep2 z TI TO i1 i2 [i1, a] [i2, b]) (n1 : a ≠ i1) (n2 : b ≠ i2) (hh : A.handled = none) (I : Inv X pins σ H s)
    (zn : IsZip s.heap z TI TO .none) (st : ZipSt H t1 t2 a b z TI TO i1 i2 0 s.heap) (qx : SqS X.K H t1 a xs) (qy : SqS X.K H t2 b ys) (hz : min xs.length ys.length ≤ sizeLine) (hf : ∀ c ∈ [z, TI, TO, i1, i2], FpOk X pins H c)
    (hR : ∀ H' s' vs us, Inv X pins σ H' s' → Vals vs us → Pairs H' xs ys vs (min xs.length ys.length) → (∀ c o, H c = some o → H' c = some o) → Q us s') :
    wpAny (model X.prog X.w) A (collect (.ref z)) Q E s := by
  obtain ⟨hp, g, d, tk, os⟩ := s
  have zty : ∀ h' : Heap, (∀ c o, hp.get? c = some o → h'.get? c = some o) → Shared.TypeIs ⟨h', g, d, tk, os⟩ (.ref z) "zip" := fun h' k => by
    rcases st.1 with q | ⟨_, _, _, _, q, _⟩ <;> exact ⟨_, k _ _ q, rfl⟩
  unfold collect
  refine wpAny_bind (wpAny_runValue (codeAny_builtin F.entry_proto_collect ?_))
  rw [Around.under_plainId F.plain_proto_collect _]
  show wpAny _ A.in1 (newList [] >>= fun l' => again (.builtin "list.__iadd__" ⟨[l', .ref z], []⟩)) _ _ _
  refine wpAny_bind (wpAny_newObj_type ?_)
  refine wpAny_pure ⟨plainId_quiet F.plain_list_iadd _, codeAny_builtin F.entry_list_iadd ?_⟩
  rw [Around.under_plainId F.plain_list_iadd _]
  have k0 : ∀ c o, hp.get? c = some o → (hp.push { cls := .type "list", data := .seq ([] : List Value).toArray }).get? c = some o := fun c o e => Heap.get?_push_of_some _ e
  have hS : (hp.push { cls := .type "list", data := .seq ([] : List Value).toArray }).get? hp.objs.size = some { cls := .type "list", data := .seq ([] : List Value).toArray } := Heap.get?_push_size _ rfl
  have nL : H hp.objs.size = none := I.hok.fresh (Nat.le_refl _)
  have lt : ∀ c ∈ [z, TI, TO, i1, i2], c < hp.objs.size := fun c hc => by
    obtain ⟨q1, q2, ⟨_, _, q3⟩, q4, q5⟩ := id st
    have e' : c = z ∨ c = TI ∨ c = TO ∨ c = i1 ∨ c = i2 := by simpa using hc
    rcases e' with q | q | q | q | q
    · rw [q]
      rcases q1 with q1 | ⟨_, _, _, _, q1, _⟩ <;> exact Heap.lt_size q1
    · rw [q]; exact Heap.lt_size q2
    · rw [q]; exact Heap.lt_size q3
    · rw [q]; obtain ⟨_, e1, _⟩ := q4.obj; exact Heap.lt_size e1
    · rw [q]; obtain ⟨_, e2, _⟩ := q5.obj; exact Heap.lt_size e2
  have nz : hp.objs.size ∉ [z, TI, TO, i1, i2] := fun q => Nat.lt_irrefl _ (lt _ q)
  generalize hg1 : hp.push { cls := .type "list", data := .seq ([] : List Value).toArray } = g1 at k0 hS ⊢
  show wpAny _ A.in1 (Builtin.List.listExtendWith (.ref hp.objs.size) (.ref z) (.ref hp.objs.size)) _ _ _
  unfold Builtin.List.listExtendWith
  refine wpAny_bind (wpAny_typeOf (zty g1 k0) ?_)
  have z1 : Builtin.List.listSameRef (.ref hp.objs.size) (.ref z) = false := by
    have q : hp.objs.size ≠ z := fun q => nz (by simp [q])
    simp [Builtin.List.listSameRef, q]
  have z2 : (Value.type "zip" == Value.type "list") = false := by decide
  have z3 : (Value.type "zip" == Value.type "tuple") = false := by decide
  simp only [z1, z2, z3, Bool.or_false, Bool.false_eq_true, if_false]
  refine wpAny_bind (wpAny_pyIter_zip (k0 _ _ zn) ?_)
  refine wpAny_bind (wpAny_holding ?_)
  unfold Builtin.List.listLengthHint
  refine wpAny_bind (wpAny_specialOf (zty g1 k0) zip_no_len ?_)
  show wpAny _ A.in1 (specialOf (Value.ref z) (Str.ofString "__length_hint__") >>= fun _ => _) _ _ _
  refine wpAny_bind (wpAny_specialOf (zty g1 k0) zip_no_hint (wpAny_pure ?_))
  show wpAny _ A.in1 (rule "list.extend.makes-room" >>= fun _ => Builtin.List.listTouch (.ref hp.objs.size) >>= fun _ => again (.builtin "list.extend.loop" ⟨[.ref hp.objs.size, .ref z, .ref hp.objs.size], []⟩)) _ _ _
  refine wpAny_bind (wpAny_rule (wpAny_bind ?_))
  show wpAny _ A.in1 (updateSeq hp.objs.size (·.push .none) >>= fun _ => updateSeq hp.objs.size (·.pop)) _ _ _
  refine wpAny_bind (wpAny_updateSeq hS rfl ?_)
  obtain ⟨m2, hS2⟩ := seqobj (f := fun a => a.push Value.none) hS
  generalize hh2 : g1.update hp.objs.size (Obj.mapSeq fun a => a.push Value.none) = g2 at hS2 ⊢
  have k2 : ∀ c o, hp.get? c = some o → g2.get? c = some o := fun c o e => by
    rw [← hh2]; exact (Heap.get?_update_other _ _ (Nat.ne_of_gt (Heap.lt_size e))).trans (k0 c o e)
  refine wpAny_updateSeq (hz := by seq_fits) hS2 rfl (wpAny_pure ⟨plainId_quiet F.plain_extend_loop _, ?_⟩)
  obtain ⟨m3, hS3⟩ := seqobj (f := fun a => a.pop) hS2
  generalize hh3 : g2.update hp.objs.size (Obj.mapSeq fun a => a.pop) = g3 at hS3 ⊢
  have k3 : ∀ c o, hp.get? c = some o → g3.get? c = some o := fun c o e => by
    rw [← hh3]; exact (Heap.get?_update_other _ _ (Nat.ne_of_gt (Heap.lt_size e))).trans (k2 c o e)
  have I3 : Inv X pins σ (upd H hp.objs.size (.lst [])) ⟨g3, g, d, tk, os⟩ := I.laid (t' := tk) k3 (Nat.le_refl _) ⟨Nat.zero_le _, [], m3, .nil, hS3⟩
  have up : ∀ c o, H c = some o → (upd H hp.objs.size (.lst [])) c = some o := fun c o e => by rw [upd_ne (ne_of_none e nL)]; exact e
  have hseq : ∀ {t : Bool} {c : Addr} {us : List V}, SqS X.K H t c us → SqS X.K (upd H hp.objs.size (.lst [])) t c us := fun q => sqs_same q fun o e => up _ o e
  refine zip_loop (X := X) (pins := pins) (σ := σ) (B := A) (H0 := upd H hp.objs.size (.lst [])) S n1 n2 (show A.in1.in1.handled = none from hh) nz ?_ ?_ (hseq qx) (hseq qy) hz (fun H' s' vs I' hL hP same => ?_) _ 0 _ _ [] rfl (Nat.zero_le _) I3 ?_ upd_same ⟨rfl, fun j x y hj => absurd hj (Nat.not_lt_zero _)⟩ (fun c o e _ => e) fun c hc => DL.FpOk.upd (hf c hc) (fun q => nz (by rw [← q]; exact hc))
  · rintro o e rfl
    obtain ⟨_, _, _, _, q⟩ := inv_s I qx
    exact Nat.lt_irrefl _ q
  · rintro o e rfl
    obtain ⟨_, _, _, _, q⟩ := inv_s I qy
    exact Nat.lt_irrefl _ q
  · obtain ⟨_, its, nn, rv, el, hO⟩ := I'.lstM hL
    show wpAny _ A (load hp.objs.size >>= _) _ _ s'
    refine wpAny_bind (wpAny_load hO ?_)
    refine wpAny_pure ?_
    have := hR H' s' vs its I' rv hP fun c o e => same c o (up c o e) (ne_of_none e nL)
    simpa using this
  · obtain ⟨q1, q2, ⟨a1, a2, q3⟩, q4, q5⟩ := id st
    refine ⟨?_, k3 _ _ q2, ⟨a1, a2, k3 _ _ q3⟩, q4.at' fun o e => k3 _ _ e, q5.at' fun o e => k3 _ _ e⟩
    rcases q1 with q | ⟨T, f, u, v, q, r⟩
    · exact .inl (k3 _ _ q)
    · exact .inr ⟨T, f, u, v, k3 _ _ q, up _ _ r⟩
end
end DL
namespace DL
open PySem PySem.Spec L2
open PyProof.Rows hiding St
section
variable {X : Cx} {pins : List (Addr × Obj)} {σ : L2.St} {t1 t2 : Bool} {a b z TI TO i1 i2 : Addr} {xs ys : List V}
theorem code_tuple_new_zip {A : Around} {E : Value → Shared → Prop} {Q₁ : Value → Shared → Prop} {s : Shared} {H : Hp} (S : ZipSep2 z TI TO i1 i2 [i1, a] [i2, b]) (n1 : a ≠ i1) (n2 : b ≠ i2) (hh : A.handled = none) (I : Inv X pins σ H s)
    (zn : IsZip s.heap z TI TO .none) (st : ZipSt H t1 t2 a b z TI TO i1 i2 0 s.heap) (qx : SqS X.K H t1 a xs) (qy : SqS X.K H t2 b ys) (hz : min xs.length ys.length ≤ sizeLine) (hf : ∀ c ∈ [z, TI, TO, i1, i2], FpOk X pins H c)
    (h : ∀ H' s' T vs, Inv X pins σ (upd H' T (.tup vs)) s' → H' T = none → Pairs H' xs ys vs (min xs.length ys.length) → (∀ c o, H c = some o → H' c = some o) → s'.TypeIs (.ref T) "tuple" → Q₁ (.ref T) s') :
    codeAny (model X.prog X.w) A (.call (.builtin "tuple.__new__") ⟨[.type "tuple", .ref z], []⟩) (wants Q₁ E) s := by
  refine codeAny_of_tree ?_
  show wpAny _ A.in1 (do checkBuiltinCall "tuple.__new__" ⟨[.type "tuple", .ref z], []⟩; again (.builtin "tuple.__new__" ⟨[.type "tuple", .ref z], []⟩)) _ _ s
  refine wpAny_bind (wpAny_of_eq (F.newCall_tuple_1 _) (wpAny_pure ⟨plainId_quiet F.plain_tuple_new _, codeAny_builtin F.entry_tuple_new ?_⟩))
  rw [Around.under_plainId F.plain_tuple_new _]
  have hsub := sub_tuple_self
  have hinit := init_tuple_lookup
  have hmh := madeHere_tuple
  have hTI : s.TypeIs (.ref z) "zip" := ⟨_, zn, rfl⟩
  have hh1 : A.in1.handled = none := hh
  wp_walk using wpAny_typeOf hTI, collect_zip (A := A.in1) S n1 n2 hh1 I zn st qx qy hz hf
  intro H' s' vs us I' rv hP same
  show wpAny _ _ (Builtin.Tuple.tupleExact us.toArray >>= fun v => ret v) _ _ _
  unfold Builtin.Tuple.tupleExact
  have lv := rv.length
  have hl : vs.length ≤ sizeLine := by rw [hP.1]; exact hz
  refine wpAny_bind (wpAny_newObj_type ?_ (by show us.toArray.size ≤ sizeLine; rw [List.size_toArray, ← lv]; exact hl))
  refine wpAny_pure ?_
  exact h H' _ _ vs (I'.laid (t' := s'.toks) (fun b o e => Heap.get?_push_of_some _ e) (Nat.le_refl _) (show ObjOk X.prog X.w _ _ _ (.tup vs) from ⟨hl, us, rv, IsTup.new _ _⟩)) (I'.hok.fresh (Nat.le_refl _)) hP same ⟨_, Heap.get?_push_size _ rfl, rfl⟩
theorem call_tuple_zip {A : Around} {E : Value → Shared → Prop} {Q : Value → Shared → Prop} {s : Shared} {H : Hp} (S : ZipSep2 z TI TO i1 i2 [i1, a] [i2, b]) (n1 : a ≠ i1) (n2 : b ≠ i2) (hh : A.handled = none) (I : Inv X pins σ H s)
    (zn : IsZip s.heap z TI TO .none) (st : ZipSt H t1 t2 a b z TI TO i1 i2 0 s.heap) (qx : SqS X.K H t1 a xs) (qy : SqS X.K H t2 b ys) (hz : min xs.length ys.length ≤ sizeLine) (hf : ∀ c ∈ [z, TI, TO, i1, i2], FpOk X pins H c)
    (h : ∀ H' s' T vs, Inv X pins σ (upd H' T (.tup vs)) s' → H' T = none → Pairs H' xs ys vs (min xs.length ys.length) → (∀ c o, H c = some o → H' c = some o) → Q (.ref T) s') :
    wpAny (model X.prog X.w) A (call (.type "tuple") [.ref z]) Q E s := by
  refine callType_codes (Q₁ := fun obj s₁ => s₁.TypeIs obj "tuple" ∧ Q obj s₁) F.called_tuple (F.typeCall_tuple_1 _) F.entry_object_init
    (code_tuple_new_zip (A := A.in1) S n1 n2 hh I zn st qx qy hz hf fun H' s' T vs I' nT hP same tT => ⟨tT, h H' s' T vs I' nT hP same⟩) fun obj s₁ h₁ => ?_
  exact ⟨h₁.1, F.args_object_init_2 obj _, object_init_meets F.called_tuple.init.lookup F.called_tuple.made (by decide) X.prog X.w A.in1 _ s₁ ⟨h₁.1, rfl, h₁.2⟩⟩
end
def tTupZip (K : PySem.W.Frag) (ta : TA) : TE := fun σ H Q => ta σ H fun vs H1 => ∃ a b t1 t2 xs ys, vs = [.ref a, .ref b] ∧ SqS K H1 t1 a xs ∧ SqS K H1 t2 b ys ∧
  ∀ (H' : Hp) (T : Addr) (us : List V), (∀ c o, H1 c = some o → H' c = some o) → H' T = none → Pairs H' xs ys us (min xs.length ys.length) → Q (.ref T) (upd H' T (.tup us))
theorem pe_tupZip {X : Cx} {e e2 : Expr} {ta : TA} {p pz posz pos : Pos} (hgl : Gl X "tuple") (hml : X.mg "tuple" = none) (hg : Gl X "zip") (hm : X.mg "zip" = none) (hc : X.calm = true) (ha : PA X [e, e2] ta)
    (hs : starEach [e, e2] X.env = (false, eval e X.env) :: starEach [e2] X.env := by rfl) (hpl : (backTo posz (starEach [e2] X.env)).any (·.1) = false := by rfl)
    (hs2 : starEach [.Call (.Name "zip" pz) [e, e2] [] posz] X.env = (false, eval (.Call (.Name "zip" pz) [e, e2] [] posz) X.env) :: starEach [] X.env := by rfl) :
    PE X (.Call (.Name "tuple" p) [.Call (.Name "zip" pz) [e, e2] [] posz] [] pos) (tTupZip X.K ta) := by
  refine ⟨fun pins s σ H Q I h => ?_⟩
  refine wpAny_Call_Name_kw (ld_blt I hgl hml PyProof.Rows.boot_tuple ?_)
  refine PyProof.Rows.callWith_type1 ?_ hs2 rfl
  rw [hs2]
  show wpAny _ _ (spliced ((false, eval (.Call (.Name "zip" pz) [e, e2] [] posz) X.env) :: [])) _ _ s
  refine Calls.spliced_cons (Call_ (ld_blt I hg hm PyProof.Rows.boot_zip (PyProof.Rows.callWith_type1 (thn (ha.run posz pins s σ H _ I h) fun us s1 ⟨vs, H1, I1, r1, q1⟩ => ?_) hs hpl)))
  obtain ⟨a, b, t1, t2, xs, ys, ex, hqx, hqy, q⟩ := q1
  subst ex
  obtain ⟨its, rv, p1, zx, la⟩ := inv_s I1 hqx
  obtain ⟨its2, rv2, p2, _, lb⟩ := inv_s I1 hqy
  cases r1 with
  | cons r rr =>
    cases rr with
    | cons r' rr =>
      cases rr
      cases r
      cases r'
      refine zip_begins2 (begins_s t1 a its.toArray) (begins_s t2 b its2.toArray) p1 p2 fun h' hz hTI hTO h1 h2 hsz hk => Calls.spliced_nil ?_
      have I2 : Inv X pins σ H1 { s1 with heap := h' } := I1.kept (t' := s1.toks) hk
      have fresh : ∀ c ∈ [s1.heap.objs.size + 4, s1.heap.objs.size + 2, s1.heap.objs.size + 3, s1.heap.objs.size, s1.heap.objs.size + 1], FpOk X pins H1 c := fun c hcm => by
        have e' : c = s1.heap.objs.size + 4 ∨ c = s1.heap.objs.size + 2 ∨ c = s1.heap.objs.size + 3 ∨ c = s1.heap.objs.size ∨ c = s1.heap.objs.size + 1 := by simpa using hcm
        have hle : s1.heap.objs.size ≤ c := by
          rcases e' with z | z | z | z | z
          · rw [z]; exact Nat.le_add_right _ _
          · rw [z]; exact Nat.le_add_right _ _
          · rw [z]; exact Nat.le_add_right _ _
          · rw [z]; exact Nat.le_refl _
          · rw [z]; exact Nat.le_add_right _ _
        exact I1.fpOk hle (I1.hok.fresh hle)
      refine call_tuple_zip (X := X) (pins := pins) (σ := σ) (t1 := t1) (t2 := t2) (zip_sep2 (fp1 := [a]) (fp2 := [b]) (by simpa using la) (by simpa using lb)) (Nat.ne_of_lt la) (Nat.ne_of_lt (Nat.lt_succ_of_lt lb)) (I2.ok.hd hc) I2 hz
        ⟨.inl hz, hTI, ⟨_, _, hTO⟩, iterAt_mk h1, iterAt_mk h2⟩ hqx hqy (Nat.le_trans (Nat.min_le_left _ _) zx) fresh fun H' s' T us I' nT hP same => ?_
      exact ⟨.ref T, _, I', rfl, q H' T us same nT hP⟩
def dTupZip (ta : DTA) : DTE := fun σ h Q => ta σ h fun ds h1 => match ds with
  | [d, e] => match itemsD h1 d, itemsD h1 e with
    | some xs, some ys => Q (.tup (zipD xs ys)) h1
    | _, _ => False
  | _ => False
theorem de_tupZip {X : Cx} {e e2 : Expr} {ta : DTA} {p pz posz pos : Pos} (hgl : Gl X "tuple") (hml : X.mg "tuple" = none) (hg : Gl X "zip") (hm : X.mg "zip" = none) (hc : X.calm = true) (ha : DA X [e, e2] ta)
    (hs : starEach [e, e2] X.env = (false, eval e X.env) :: starEach [e2] X.env := by rfl) (hpl : (backTo posz (starEach [e2] X.env)).any (·.1) = false := by rfl)
    (hs2 : starEach [.Call (.Name "zip" pz) [e, e2] [] posz] X.env = (false, eval (.Call (.Name "zip" pz) [e, e2] [] posz) X.env) :: starEach [] X.env := by rfl) :
    DE X (.Call (.Name "tuple" p) [.Call (.Name "zip" pz) [e, e2] [] posz] [] pos) (dTupZip ta) :=
  (pe_tupZip hgl hml hg hm hc ha hs hpl hs2).imp fun σ H Q ⟨σD, h, QD, rs, q, p⟩ => by
    refine ⟨σD, h, _, rs, q, fun ds h1 vs H1 q1 rs1 r1 k1 => ?_⟩
    split at q1
    · rename_i d e
      split at q1
      · rename_i xs ys e1 e2
        obtain ⟨v, w, rfl, rv, rw⟩ := reps_two r1
        obtain ⟨a, vx, rfl, s1, rx⟩ := items_of rs1.hr e1 rv
        obtain ⟨b, vy, rfl, s2, ry⟩ := items_of rs1.hr e2 rw
        obtain ⟨t1, s1⟩ := sqs_of s1
        obtain ⟨t2, s2⟩ := sqs_of s2
        refine ⟨a, b, t1, t2, vx, vy, rfl, s1, s2, fun H' T us same nT hP => ?_⟩
        have tm : TupMono H1 H' := same_tup same
        have lx := rx.len
        have ly := ry.len
        have rz : Reps X.K H' (zipD xs ys) us := reps_of_get (by rw [zipD_len, hP.1, lx, ly]) fun j d e => by
          obtain ⟨x, y, ex, ey, rfl⟩ := zipD_at e
          obtain ⟨x', hx', rx'⟩ := rx.get ex
          obtain ⟨y', hy', ry'⟩ := ry.get ey
          have jx := (List.getElem?_eq_some_iff.mp hx').1
          have jy := (List.getElem?_eq_some_iff.mp hy').1
          obtain ⟨T, eT, hT⟩ := hP.2 j x' y' (by omega) hx' hy'
          refine ⟨.ref T, eT, ?_⟩
          unfold Rep
          refine ⟨T, [x', y'], rfl, .inl (.inl hT), ?_⟩
          unfold Reps
          refine ⟨x', [y'], rfl, rx'.mono tm, ?_⟩
          unfold Reps
          exact ⟨y', [], rfl, ry'.mono tm, by simp [Reps]⟩
        have rs2 : RS X.K σD h1 σ H' := ⟨rs1.sl.mono tm, fun c o z => by
          obtain ⟨u, hu, wq⟩ := rs1.hr c o z
          exact ⟨u, same c u hu, wq.mono tm⟩⟩
        exact p _ h1 _ _ q1 (rs2.hid nT) (rep_tup_mk nT rz) ((k1.trans fun c o z n => ⟨same c o z, n⟩).trans (.hid nT))
      · exact q1.elim
    · exact q1.elim
end DL
namespace DL
open PySem PySem.Spec L2
open PyProof.Rows hiding St
section
variable {M : Model} {A : Around} {E : Value → Shared → Prop}
theorem forIn_st {α β : Type} {f : α → β → Sem (ForInStep β)} {Q0 : β → Shared → Prop} (b : Nat → β) (G : Nat → Shared → Prop) : ∀ (l : List α) (k : Nat) (s : Shared), G k s →
    (∀ (j : Nat) (x : α) (s : Shared) (Q : ForInStep β → Shared → Prop), l[j]? = some x → G (k + j) s → (∀ s', G (k + j + 1) s' → Q (.yield (b (k + j + 1))) s') → wpAny M A (f x (b (k + j))) Q E s) →
    (∀ s, G (k + l.length) s → Q0 (b (k + l.length)) s) → wpAny M A (forIn l (b k) f) Q0 E s
  | [], k, s, g, _, fin => by
    rw [List.forIn_nil]
    exact wpAny_pure (fin s g)
  | x :: l, k, s, g, step, fin => by
    rw [List.forIn_cons]
    refine wpAny_bind (step 0 x s _ rfl g fun s' g' => ?_)
    refine forIn_st b G l (k + 1) s' g' (fun j y s Q e g q => ?_) (fun s g => ?_)
    · have := step (j + 1) y s Q (by simpa using e) (by rw [show k + (j + 1) = k + 1 + j by omega]; exact g) (fun s' g' => by
        have := q s' (by rw [show k + 1 + j + 1 = k + (j + 1) + 1 by omega]; exact g')
        rw [show k + 1 + j + 1 = k + (j + 1) + 1 by omega] at this; exact this)
      rw [show k + (j + 1) = k + 1 + j by omega] at this
      exact this
    · have e : k + 1 + l.length = k + (x :: l).length := by simp; omega
      rw [e] at g ⊢
      exact fin s g
end
abbrev ZL := List (Addr × Addr × Array Value)
/-- a zip of these iterators -/
abbrev IsZipF (h : Heap) (z TI TO : Addr) (x0 f : Value) : Prop := h.get? z = some { cls := .type "zip", dict := none, data := .fields #[x0, f, .bool false, .ref TI, .ref TO], slots := #[] }
abbrev IsTupA (h : Heap) (T : Addr) (xs : Array Value) : Prop := h.get? T = some { cls := .type "tuple", data := .seq xs }
structure ZnSep (z TI TO : Addr) (L : ZL) : Prop where
  TIz : TI ≠ z
  TOz : TO ≠ z
  TITO : TI ≠ TO
  nd : (L.map (·.1)).Nodup
  ap : ∀ p ∈ L, p.1 ≠ z ∧ p.1 ≠ TI ∧ p.1 ≠ TO ∧ p.2.1 ≠ z ∧ p.2.1 ≠ TO
  ia : ∀ p ∈ L, ∀ q ∈ L, p.2.1 ≠ q.1
/-- the iterators stand at i + 1 (the first j), at i (the others) -/
def ZnAt (L : ZL) (i j : Nat) (h : Heap) : Prop := ∀ k p, L[k]? = some p → h.IsTupleIter p.1 p.2.1 (if k < j then i + 1 else i) ∧ h.IsTuple p.2.1 p.2.2
def ZnVal (L : ZL) (i : Nat) : List Value := L.map fun p => p.2.2.getD i .none
section
variable {prog : Program} {w : World} {A : Around} {E : Value → Shared → Prop} {z TI TO : Addr} {L : ZL} {i : Nat}
theorem ZnSep.ne (S : ZnSep z TI TO L) {j k : Nat} {p q : Addr × Addr × Array Value} (hj : L[j]? = some p) (hk : L[k]? = some q) (h : j ≠ k) : p.1 ≠ q.1 := by
  intro e
  have l1 : j < (L.map (·.1)).length := by rw [List.length_map]; exact (List.getElem?_eq_some_iff.mp hj).1
  have l2 : k < (L.map (·.1)).length := by rw [List.length_map]; exact (List.getElem?_eq_some_iff.mp hk).1
  have := (List.getElem_inj (h₀ := l1) (h₁ := l2) S.nd).mp (by
    obtain ⟨_, e1⟩ := List.getElem?_eq_some_iff.mp hj
    obtain ⟨_, e2⟩ := List.getElem?_eq_some_iff.mp hk
    simp [e1, e2, e])
  exact h this
/-- one draw -/
theorem zn_draw {Q : Value → Shared → Prop} {s : Shared} {j : Nat} {p : Addr × Addr × Array Value} (S : ZnSep z TI TO L) (hh : A.handled = none) (st : ZnAt L i j s.heap) (hp : L[j]? = some p) (hlt : i < p.2.2.size)
    (hQ : ∀ h' tk, ZnAt L i (j + 1) h' → Heap.SameBut p.1 s.heap h' → Q (p.2.2.getD i .none) { s with heap := h', toks := tk }) : wpAny (model prog w) A (Builtin.SmallTypes.nextOf (.ref p.1)) Q E s := by
  have hm := List.mem_of_getElem? hp
  have D := Draws.tuple (prog := prog) (w := w) hh p.1 p.2.1 (S.ia p hm p hm) p.2.2
  obtain ⟨s1, s2⟩ := st j p hp
  rw [if_neg (Nat.lt_irrefl j)] at s1
  refine D.item i s Q E hlt ⟨s1, s2⟩ fun x h' tk hx st' sb => ?_
  have ex : x = p.2.2.getD i .none := by
    have hx' : p.2.2[i]? = some x := hx
    simp [hx']
  rw [ex]
  refine hQ h' tk (fun k q hk => ?_) sb
  by_cases e : k = j
  · subst e
    rw [hp] at hk; cases hk
    rw [if_pos (Nat.lt_succ_self k)]
    exact st'
  · obtain ⟨q1, q2⟩ := st k q hk
    have hq := List.mem_of_getElem? hk
    refine ⟨?_, q2.at fun o e => sb.extBut _ _ (S.ia q hq p hm) e⟩
    have : (if k < j + 1 then i + 1 else i) = (if k < j then i + 1 else i) := by
      by_cases h1 : k < j
      · rw [if_pos h1, if_pos (by omega)]
      · rw [if_neg h1, if_neg (by omega)]
    rw [this]
    exact q1.at fun o e2 => sb.extBut _ _ (S.ne hk hp e) e2
theorem zn_keepAt {h h' : Heap} {j : Nat} (st : ZnAt L i j h) (k : ∀ p ∈ L, ∀ c, c = p.1 ∨ c = p.2.1 → ∀ o, h.get? c = some o → h'.get? c = some o) : ZnAt L i j h' := fun n p hp => by
  obtain ⟨a, b⟩ := st n p hp
  have hm := List.mem_of_getElem? hp
  exact ⟨a.at fun o e => k p hm _ (.inl rfl) o e, b.at fun o e => k p hm _ (.inr rfl) o e⟩
theorem znVal_len : (ZnVal L i).length = L.length := by simp [ZnVal]
theorem znVal_get {k : Nat} {p : Addr × Addr × Array Value} (hp : L[k]? = some p) : (ZnVal L i)[k]? = some (p.2.2.getD i .none) := by simp [ZnVal, hp]
/-- next where the former tuple is not reused -/
theorem zn_next_out {Q : Value → Shared → Prop} {s : Shared} {x0 f : Value} (S : ZnSep z TI TO L) (hh : A.handled = none) (hz : IsZipF s.heap z TI TO x0 f) (hTI : IsTupA s.heap TI (L.map fun p => Value.ref p.1).toArray) (st : ZnAt L i 0 s.heap) (hlt : ∀ p ∈ L, i < p.2.2.size) (hL : 0 < L.length) (hL2 : L.length ≤ 1000)
    (hfree : ∀ (Q : Bool → Shared → Prop), (∀ h' (f' : Bool), IsZipF h' z TI TO x0 (.bool f') → Heap.SameBut z s.heap h' → Q false { s with heap := h' }) → wpAny (model prog w) A (Builtin.SmallTypes.ownedTupleIsFree (.ref z)) Q E s)
    (hQ : ∀ h' tk (f' : Bool), IsZipF h' z TI TO x0 (.bool f') → ZnAt L (i + 1) 0 h' → IsTupA h' s.heap.objs.size (ZnVal L i).toArray → h'.objs.size = s.heap.objs.size + 1 →
      (∀ c o, c ≠ z → (∀ p ∈ L, c ≠ p.1) → s.heap.get? c = some o → h'.get? c = some o) → Q (.ref s.heap.objs.size) { s with heap := h', toks := tk }) :
    wpAny (model prog w) A (Builtin.«zip.__next__» ⟨[.ref z], []⟩) (fun fin s' => ∃ v, fin = .done (.ret v) ∧ Q v s') E s := by
  show wpAny _ _ (field (.ref z) 2 >>= _) _ _ _
  refine wpAny_bind (wpAny_field hz rfl (x := .bool false) rfl ?_)
  show wpAny _ _ (field (.ref z) 3 >>= _) _ _ _
  refine wpAny_bind (wpAny_field hz rfl (x := .ref TI) rfl ?_)
  refine wpAny_bind (wpAny_seqItems hTI rfl ?_)
  have ne : (L.map fun p => Value.ref p.1).toArray.isEmpty = false := by
    cases L with
    | nil => simp at hL
    | cons p L => simp
  show wpAny _ _ (if (L.map fun p => Value.ref p.1).toArray.isEmpty = true then _ else _) _ _ _
  rw [ne, if_neg Bool.false_ne_true]
  show wpAny _ _ (Builtin.SmallTypes.ownedTupleIsFree (.ref z) >>= _) _ _ _
  refine wpAny_bind (hfree _ fun h₁ f' hz₁ hs₁ => ?_)
  simp only [Bool.false_eq_true, if_false]
  refine wpAny_bind ?_
  rw [← Array.forIn_toList]
  have eT : (L.map fun p => Value.ref p.1).toArray.toList = L.map fun p => Value.ref p.1 := by simp
  rw [eT]
  obtain ⟨hp, g, d, tk, os⟩ := s
  refine forIn_st (M := model prog w) (fun j => ((none : Option Fin), ((ZnVal L i).take j).toArray)) (fun j s' => ∃ g' tk', s' = ⟨g', g, d, tk', os⟩ ∧ IsZipF g' z TI TO x0 (.bool f') ∧ ZnAt L i j g' ∧ g'.objs.size = hp.objs.size ∧ ∀ c o, c ≠ z → (∀ p ∈ L, c ≠ p.1) → hp.get? c = some o → g'.get? c = some o) (L.map fun p => Value.ref p.1) 0 _ ⟨h₁, tk, rfl, hz₁, ?_, hs₁.1, fun c o cz _ e => hs₁.extBut _ _ cz e⟩ ?_ ?_
  · exact zn_keepAt st fun p hm c hc o e => hs₁.extBut _ _ (by rcases hc with rfl | rfl; exact (S.ap p hm).1; exact (S.ap p hm).2.2.2.1) e
  · rintro j x _ Q hx ⟨g', tk', rfl, hz', st', sz', kp'⟩ q
    rw [Nat.zero_add] at *
    simp only [List.getElem?_map, Option.map_eq_some_iff] at hx
    obtain ⟨p, hpj, rfl⟩ := hx
    have hm := List.mem_of_getElem? hpj
    refine wpAny_bind (wpAny_holding ?_)
    show wpAny _ _ (Builtin.SmallTypes.nextOf (.ref p.1) >>= _) _ _ _
    refine wpAny_bind (zn_draw S hh st' hpj (hlt p hm) fun h' tk2 st2 sb => wpAny_pure (wpAny_pure ?_))
    have e2 : ((ZnVal L i).take j).toArray.push (p.2.2.getD i .none) = ((ZnVal L i).take (j + 1)).toArray := by
      rw [take_next (znVal_get hpj)]; simp
    rw [e2]
    refine q _ ⟨h', tk2, rfl, sb.extBut _ _ (S.ap p hm).1.symm hz', st2, by rw [sb.1, sz'], fun c o cz cp e => sb.extBut _ _ (cp p hm) (kp' c o cz cp e)⟩
  · rintro _ ⟨g', tk', rfl, hz', st', sz', kp'⟩
    rw [Nat.zero_add, List.length_map] at *
    have e3 : ((ZnVal L i).take L.length).toArray = (ZnVal L i).toArray := by rw [← znVal_len (L := L) (i := i), List.take_length]
    show wpAny _ _ (newTuple ((ZnVal L i).take L.length).toArray.toList >>= _) _ _ _
    rw [e3]
    refine wpAny_bind (wpAny_newTuple ?_ (by simp [znVal_len]; exact Nat.le_trans hL2 (by decide)))
    refine wpAny_pure ⟨_, rfl, ?_⟩
    have e4 : (ZnVal L i).toArray.toList = ZnVal L i := by simp
    have hT : IsTupA (g'.push { cls := .type "tuple", data := .seq (ZnVal L i).toArray.toList.toArray }) g'.objs.size (ZnVal L i).toArray := Heap.get?_push_size _ rfl
    have hz4 : (g'.push { cls := .type "tuple", data := .seq (ZnVal L i).toArray.toList.toArray }).objs.size = g'.objs.size + 1 := Heap.size_push ..
    show Q (.ref g'.objs.size) _
    rw [sz'] at hT hz4 ⊢
    refine hQ _ _ f' (Heap.get?_push_of_some _ hz') (fun k p hp' => ?_) hT hz4 fun c o cz cp e => Heap.get?_push_of_some _ (kp' c o cz cp e)
    obtain ⟨a, b⟩ := st' k p hp'
    rw [if_pos (List.getElem?_eq_some_iff.mp hp').1] at a
    rw [if_neg (Nat.not_lt_zero k)]
    exact ⟨a.at fun o e => Heap.get?_push_of_some _ e, b.at fun o e => Heap.get?_push_of_some _ e⟩
/-- next the first time: the zip's own tuple is filled, and a new one handed out -/
theorem zn_next_own {Q : Value → Shared → Prop} {s : Shared} {x0 f : Value} (S : ZnSep z TI TO L) (hh : A.handled = none) (hz : IsZipF s.heap z TI TO x0 f) (hown : ∀ (Q : Bool → Shared → Prop), Q true s → wpAny (model prog w) A (Builtin.SmallTypes.ownedTupleIsFree (.ref z)) Q E s) (hTI : IsTupA s.heap TI (L.map fun p => Value.ref p.1).toArray) (hTO : ∃ arr, IsTupA s.heap TO arr ∧ arr.size = L.length) (st : ZnAt L i 0 s.heap) (hlt : ∀ p ∈ L, i < p.2.2.size) (hL : 0 < L.length) (hL2 : L.length ≤ 1000)
    (hQ : ∀ h' tk, IsZipF h' z TI TO (rawInt s.heap.objs.size) (.bool false) → ZnAt L (i + 1) 0 h' → (∃ arr, IsTupA h' TO arr ∧ arr.size = L.length) → IsTupA h' s.heap.objs.size (ZnVal L i).toArray → h'.objs.size = s.heap.objs.size + 1 →
      (∀ c o, c ≠ z → c ≠ TO → (∀ p ∈ L, c ≠ p.1) → s.heap.get? c = some o → h'.get? c = some o) → Q (.ref s.heap.objs.size) { s with heap := h', toks := tk }) :
    wpAny (model prog w) A (Builtin.«zip.__next__» ⟨[.ref z], []⟩) (fun fin s' => ∃ v, fin = .done (.ret v) ∧ Q v s') E s := by
  obtain ⟨hp, g, d, tk, os⟩ := s
  show wpAny _ _ (field (.ref z) 2 >>= _) _ _ _
  refine wpAny_bind (wpAny_field hz rfl (x := .bool false) rfl ?_)
  show wpAny _ _ (field (.ref z) 3 >>= _) _ _ _
  refine wpAny_bind (wpAny_field hz rfl (x := .ref TI) rfl ?_)
  refine wpAny_bind (wpAny_seqItems hTI rfl ?_)
  have ne : (L.map fun p => Value.ref p.1).toArray.isEmpty = false := by
    cases L with
    | nil => simp at hL
    | cons p L => simp
  show wpAny _ _ (if (L.map fun p => Value.ref p.1).toArray.isEmpty = true then _ else _) _ _ _
  rw [ne, if_neg Bool.false_ne_true]
  show wpAny _ _ (Builtin.SmallTypes.ownedTupleIsFree (.ref z) >>= _) _ _ _
  refine wpAny_bind (hown _ ?_)
  simp only [if_true]
  refine wpAny_bind (wpAny_rule ?_)
  refine wpAny_bind (wpAny_field hz rfl (x := .ref TO) rfl ?_)
  refine wpAny_bind (wpAny_setField_rec hz (by simp) fun g0 hz0 hs0 => ?_)
  replace hz0 : IsZipF g0 z TI TO .ellipsis f := hz0
  replace hs0 : Heap.SameBut z hp g0 := hs0
  refine wpAny_bind ?_
  obtain ⟨arr, hTO, asz⟩ := hTO
  have hTO0 : IsTupA g0 TO arr := hs0.extBut _ _ S.TOz hTO
  refine forIn_st (M := model prog w) (fun _ => ((none : Option Fin), ())) (fun j s' => ∃ g' tk' arr, s' = ⟨g', g, d, tk', os⟩ ∧ IsZipF g' z TI TO .ellipsis f ∧ ZnAt L i j g' ∧ IsTupA g' TO arr ∧ arr.size = L.length ∧ (∀ k, k < j → arr[k]? = (ZnVal L i)[k]?) ∧ g'.objs.size = hp.objs.size ∧ ∀ c o, c ≠ z → c ≠ TO → (∀ p ∈ L, c ≠ p.1) → hp.get? c = some o → g'.get? c = some o) ((L.map fun p => Value.ref p.1).zipIdx) 0 _ ⟨g0, tk, arr, rfl, hz0, ?_, hTO0, asz, fun k hk => absurd hk (Nat.not_lt_zero k), hs0.1, fun c o cz _ _ e => hs0.extBut _ _ cz e⟩ ?_ ?_
  · exact zn_keepAt st fun p hm c hc o e => hs0.extBut _ _ (by rcases hc with rfl | rfl; exact (S.ap p hm).1; exact (S.ap p hm).2.2.2.1) e
  · rintro j x _ Q hx ⟨g', tk', arr, rfl, hz', st', hTO', asz', hv, sz', kp'⟩ q
    rw [Nat.zero_add] at *
    rw [List.getElem?_zipIdx, List.getElem?_map] at hx
    simp only [Option.map_map, Option.map_eq_some_iff, Nat.zero_add, Function.comp_def] at hx
    obtain ⟨p, hpj, rfl⟩ := hx
    have hm := List.mem_of_getElem? hpj
    have hjl : j < L.length := (List.getElem?_eq_some_iff.mp hpj).1
    refine wpAny_bind (wpAny_onRaise ?_)
    show wpAny _ _ (Builtin.SmallTypes.nextOf (.ref p.1) >>= _) _ _ _
    refine wpAny_bind (zn_draw S hh st' hpj (hlt p hm) fun h' tk2 st2 sb => wpAny_pure ?_)
    have hTO2 : IsTupA h' TO arr := sb.extBut _ _ (S.ap p hm).2.2.1.symm hTO'
    refine wpAny_bind (wpAny_seqItems (s := ⟨h', g, d, tk2, os⟩) hTO2 rfl ?_)
    have up := Heap.get?_update_self (Obj.mapSeq fun x => x.setIfInBounds j (p.2.2.getD i .none)) hTO2 rfl
    have sbu : Heap.SameBut TO h' (h'.update TO (Obj.mapSeq fun x => x.setIfInBounds j (p.2.2.getD i .none))) := Heap.SameBut.update ..
    refine wpAny_bind (wpAny_updateSeq (s := ⟨h', g, d, tk2, os⟩) hTO2 rfl ?_ (by rw [asz']; exact Nat.le_trans hL2 (by decide)) (by rw [Array.size_setIfInBounds, asz']; exact Nat.le_trans hL2 (by decide)))
    generalize hu : h'.update TO (Obj.mapSeq fun x => x.setIfInBounds j (p.2.2.getD i .none)) = u at up sbu ⊢
    refine wpAny_bind (wpAny_letGo (wpAny_pure ?_))
    refine q _ ⟨u, tk2, arr.setIfInBounds j (p.2.2.getD i .none), rfl, sbu.extBut _ _ S.TOz.symm (sb.extBut _ _ (S.ap p hm).1.symm hz'), ?_, ?_, by simp [asz'], ?_, by rw [sbu.1, sb.1, sz'], fun c o cz cT cp e => sbu.extBut _ _ cT (sb.extBut _ _ (cp p hm) (kp' c o cz cT cp e))⟩
    · exact zn_keepAt st2 fun p' hm' c hc o e => sbu.extBut _ _ (by rcases hc with rfl | rfl; exact (S.ap p' hm').2.2.1; exact (S.ap p' hm').2.2.2.2) e
    · show u.get? TO = _
      rw [up]; simp [Obj.mapSeq]
    · intro k hk
      by_cases e : k = j
      · subst e
        rw [znVal_get hpj, Array.getElem?_setIfInBounds_self_of_lt (by omega)]
      · rw [Array.getElem?_setIfInBounds_ne (Ne.symm e)]
        exact hv k (by omega)
  · rintro _ ⟨g', tk', arr, rfl, hz', st', hTO', asz', hv, sz', kp'⟩
    rw [Nat.zero_add, List.length_zipIdx, List.length_map] at *
    have ea : arr = (ZnVal L i).toArray := by
      have : arr.toList = ZnVal L i := by
        apply List.ext_getElem?
        intro k
        rw [Array.getElem?_toList]
        by_cases hk : k < L.length
        · exact hv k hk
        · rw [Array.getElem?_eq_none (by omega), List.getElem?_eq_none (by rw [znVal_len]; omega)]
      rw [← this]
    subst ea
    refine wpAny_bind (wpAny_seqItems (s := ⟨g', g, d, tk', os⟩) hTO' rfl ?_)
    refine wpAny_bind (wpAny_newTuple ?_ (by simp [znVal_len]; exact Nat.le_trans hL2 (by decide)))
    show wpAny _ _ (Builtin.SmallTypes.ownedTupleHandOut (.ref z) (.ref g'.objs.size) >>= _) _ _ ⟨g'.push { cls := .type "tuple", data := .seq (ZnVal L i).toArray }, g, d, tk', os⟩
    have hzlt : z < g'.objs.size := Heap.lt_size hz'
    refine wpAny_bind ?_
    unfold Builtin.SmallTypes.ownedTupleHandOut
    have hz₆ : IsZipF (g'.push { cls := .type "tuple", data := .seq (ZnVal L i).toArray }) z TI TO .ellipsis f := Heap.get?_push_of_some _ hz'
    refine wpAny_bind (wpAny_setField_rec hz₆ (by simp) fun h₇ hz₇ hs₇ => ?_)
    replace hz₇ : IsZipF h₇ z TI TO (rawInt g'.objs.size) f := hz₇
    refine wpAny_setField_rec hz₇ (by simp) fun h₈ hz₈ hs₈ => ?_
    replace hz₈ : IsZipF h₈ z TI TO (rawInt g'.objs.size) (.bool false) := hz₈
    replace hs₇ : Heap.SameBut z (g'.push { cls := .type "tuple", data := .seq (ZnVal L i).toArray }) h₇ := hs₇
    replace hs₈ : Heap.SameBut z h₇ h₈ := hs₈
    have up : ∀ c o, c ≠ z → g'.get? c = some o → h₈.get? c = some o := fun c o c1 e => hs₈.extBut _ _ c1 (hs₇.extBut _ _ c1 (Heap.get?_push_of_some _ e))
    have hT₈ : IsTupA h₈ g'.objs.size (ZnVal L i).toArray := hs₈.extBut _ _ (Nat.ne_of_gt hzlt) (hs₇.extBut _ _ (Nat.ne_of_gt hzlt) (Heap.get?_push_size _ rfl))
    have hz8 : h₈.objs.size = g'.objs.size + 1 := by rw [hs₈.1, hs₇.1, Heap.size_push]
    rw [sz'] at hz₈ hT₈ hz8
    refine wpAny_pure ⟨_, rfl, ?_⟩
    show Q (.ref g'.objs.size) ⟨h₈, g, d, tk', os⟩
    rw [sz']
    refine hQ h₈ tk' hz₈ (fun k p hp' => ?_) ⟨_, up _ _ S.TOz hTO', by simp [znVal_len]⟩ hT₈ hz8 fun c o cz cT cp e => up c o cz (kp' c o cz cT cp e)
    obtain ⟨a, b⟩ := st' k p hp'
    have hm := List.mem_of_getElem? hp'
    rw [if_pos (List.getElem?_eq_some_iff.mp hp').1] at a
    rw [if_neg (Nat.not_lt_zero k)]
    exact ⟨a.at fun o e => up _ _ (S.ap p hm).1 e, b.at fun o e => up _ _ (S.ap p hm).2.2.2.1 e⟩
/-- the end, the tuple in the zip's own hands -/
theorem zn_end_own {Q : Fin → Shared → Prop} {s : Shared} {p : Addr × Addr × Array Value} {x0 f : Value} (S : ZnSep z TI TO L) (hh : A.handled = none) (hz : IsZipF s.heap z TI TO x0 f) (hown : ∀ (Q : Bool → Shared → Prop), Q true s → wpAny (model prog w) A (Builtin.SmallTypes.ownedTupleIsFree (.ref z)) Q E s) (hTI : IsTupA s.heap TI (L.map fun p => Value.ref p.1).toArray) (st : ZnAt L i 0 s.heap) (hp0 : L[0]? = some p) (hend : i = p.2.2.size)
    (hE : ∀ h' e, (∀ c o, c ≠ z → (∀ p ∈ L, c ≠ p.1) → s.heap.get? c = some o → h'.get? c = some o) → (∃ o, h'.get? e = some o ∧ o.cls = .type "StopIteration") → E (.ref e) { s with heap := h' }) :
    wpAny (model prog w) A (Builtin.«zip.__next__» ⟨[.ref z], []⟩) Q E s := by
  obtain ⟨hp, g, d, tk, os⟩ := s
  have hm := List.mem_of_getElem? hp0
  show wpAny _ _ (field (.ref z) 2 >>= _) _ _ _
  refine wpAny_bind (wpAny_field hz rfl (x := .bool false) rfl ?_)
  show wpAny _ _ (field (.ref z) 3 >>= _) _ _ _
  refine wpAny_bind (wpAny_field hz rfl (x := .ref TI) rfl ?_)
  refine wpAny_bind (wpAny_seqItems hTI rfl ?_)
  obtain ⟨L', eL⟩ : ∃ L', L = p :: L' := by
    cases L with
    | nil => simp at hp0
    | cons q L' => simp at hp0; subst hp0; exact ⟨L', rfl⟩
  have ne : (L.map fun p => Value.ref p.1).toArray.isEmpty = false := by rw [eL]; simp
  show wpAny _ _ (if (L.map fun p => Value.ref p.1).toArray.isEmpty = true then _ else _) _ _ _
  rw [ne, if_neg Bool.false_ne_true]
  show wpAny _ _ (Builtin.SmallTypes.ownedTupleIsFree (.ref z) >>= _) _ _ _
  refine wpAny_bind (hown _ ?_)
  simp only [if_true]
  refine wpAny_bind (wpAny_rule ?_)
  refine wpAny_bind (wpAny_field hz rfl (x := .ref TO) rfl ?_)
  refine wpAny_bind (wpAny_setField_rec hz (by simp) fun g0 hz0 hs0 => ?_)
  replace hz0 : IsZipF g0 z TI TO .ellipsis f := hz0
  replace hs0 : Heap.SameBut z hp g0 := hs0
  refine wpAny_bind ?_
  have ez : (L.map fun p => Value.ref p.1).zipIdx = (Value.ref p.1, 0) :: (L'.map fun p => Value.ref p.1).zipIdx 1 := by rw [eL, List.map_cons, List.zipIdx_cons]
  rw [ez, List.forIn_cons]
  refine wpAny_bind (wpAny_bind (wpAny_onRaise ?_))
  show wpAny _ _ (Builtin.SmallTypes.nextOf (.ref p.1) >>= _) _ _ ⟨g0, g, d, tk, os⟩
  have D := Draws.tuple (prog := prog) (w := w) hh p.1 p.2.1 (S.ia p hm p hm) p.2.2
  obtain ⟨s1, s2⟩ := st 0 p hp0
  rw [if_neg (Nat.lt_irrefl 0)] at s1
  refine wpAny_bind (D.done ⟨g0, g, d, tk, os⟩ _ _ (by rw [← hend]; exact ⟨s1.at fun o e => hs0.extBut _ _ (S.ap p hm).1 e, s2.at fun o e => hs0.extBut _ _ (S.ap p hm).2.2.2.1 e⟩) fun q e hq he => ?_)
  replace hq : Heap.ExtBut p.1 g0 q := hq
  obtain ⟨oe, hoe, hce⟩ := he
  replace hoe : q.get? e = some oe := hoe
  have hzq : IsZipF q z TI TO .ellipsis f := hq _ _ (S.ap p hm).1.symm hz0
  have hez : e ≠ z := fun x => by subst x; rw [hzq] at hoe; cases hoe; simp at hce
  refine wpAny_setField_rec (s := ⟨q, g, d, tk, os⟩) hzq (by simp) fun q' _ hq' => ?_
  replace hq' : Heap.SameBut z q q' := hq'
  exact hE q' e (fun c o cz cp x => hq'.extBut _ _ cz (hq _ _ (cp p hm) (hs0.extBut _ _ cz x))) ⟨oe, hq'.extBut _ _ hez hoe, hce⟩
/-- the end, the former tuple still out -/
theorem zn_end_out {Q : Fin → Shared → Prop} {s : Shared} {x0 f : Value} {p : Addr × Addr × Array Value} (S : ZnSep z TI TO L) (hh : A.handled = none) (hz : IsZipF s.heap z TI TO x0 f) (hTI : IsTupA s.heap TI (L.map fun p => Value.ref p.1).toArray) (st : ZnAt L i 0 s.heap) (hp0 : L[0]? = some p) (hend : i = p.2.2.size)
    (hfree : ∀ (Q : Bool → Shared → Prop), (∀ h' (f' : Bool), IsZipF h' z TI TO x0 (.bool f') → Heap.SameBut z s.heap h' → Q false { s with heap := h' }) → wpAny (model prog w) A (Builtin.SmallTypes.ownedTupleIsFree (.ref z)) Q E s)
    (hE : ∀ h' e, (∀ c o, c ≠ z → (∀ p ∈ L, c ≠ p.1) → s.heap.get? c = some o → h'.get? c = some o) → (∃ o, h'.get? e = some o ∧ o.cls = .type "StopIteration") → E (.ref e) { s with heap := h' }) :
    wpAny (model prog w) A (Builtin.«zip.__next__» ⟨[.ref z], []⟩) Q E s := by
  have hm := List.mem_of_getElem? hp0
  show wpAny _ _ (field (.ref z) 2 >>= _) _ _ _
  refine wpAny_bind (wpAny_field hz rfl (x := .bool false) rfl ?_)
  show wpAny _ _ (field (.ref z) 3 >>= _) _ _ _
  refine wpAny_bind (wpAny_field hz rfl (x := .ref TI) rfl ?_)
  refine wpAny_bind (wpAny_seqItems hTI rfl ?_)
  obtain ⟨L', eL⟩ : ∃ L', L = p :: L' := by
    cases L with
    | nil => simp at hp0
    | cons q L' => simp at hp0; subst hp0; exact ⟨L', rfl⟩
  have ne : (L.map fun p => Value.ref p.1).toArray.isEmpty = false := by rw [eL]; simp
  show wpAny _ _ (if (L.map fun p => Value.ref p.1).toArray.isEmpty = true then _ else _) _ _ _
  rw [ne, if_neg Bool.false_ne_true]
  show wpAny _ _ (Builtin.SmallTypes.ownedTupleIsFree (.ref z) >>= _) _ _ _
  refine wpAny_bind (hfree _ fun h₁ f' hz₁ hs₁ => ?_)
  simp only [Bool.false_eq_true, if_false]
  refine wpAny_bind ?_
  rw [← Array.forIn_toList]
  have eT : (L.map fun p => Value.ref p.1).toArray.toList = Value.ref p.1 :: L'.map fun p => Value.ref p.1 := by rw [eL]; simp
  rw [eT, List.forIn_cons]
  refine wpAny_bind (wpAny_bind (wpAny_holding ?_))
  show wpAny _ _ (Builtin.SmallTypes.nextOf (.ref p.1) >>= _) _ _ _
  have D := Draws.tuple (prog := prog) (w := w) hh p.1 p.2.1 (S.ia p hm p hm) p.2.2
  obtain ⟨s1, s2⟩ := st 0 p hp0
  rw [if_neg (Nat.lt_irrefl 0)] at s1
  refine wpAny_bind (D.done { s with heap := h₁ } _ _ (by rw [← hend]; exact ⟨s1.at fun o e => hs₁.extBut _ _ (S.ap p hm).1 e, s2.at fun o e => hs₁.extBut _ _ (S.ap p hm).2.2.2.1 e⟩) fun q e hq he => ?_)
  exact hE q e (fun c o cz cp x => hq _ _ (cp p hm) (hs₁.extBut _ _ cz x)) he
theorem zn_free_out {s : Shared} {T : Addr} {f : Bool} {Q : Bool → Shared → Prop} (hz : IsZipF s.heap z TI TO (rawInt T) (.bool f)) {oT : Obj} (hT : s.heap.get? T = some oT)
    (h : ∀ h' (f' : Bool), IsZipF h' z TI TO (rawInt T) (.bool f') → Heap.SameBut z s.heap h' → Q false { s with heap := h' }) : wpAny (model prog w) A (Builtin.SmallTypes.ownedTupleIsFree (.ref z)) Q E s :=
  wpAny_tupleHeld_zip hz hT fun h' hz' sb => h h' _ hz' sb
theorem zn_own_none {s : Shared} {f : Value} (hz : IsZipF s.heap z TI TO .none f) (Q : Bool → Shared → Prop) (q : Q true s) : wpAny (model prog w) A (Builtin.SmallTypes.ownedTupleIsFree (.ref z)) Q E s := by
  unfold Builtin.SmallTypes.ownedTupleIsFree
  exact wpAny_bind (wpAny_field hz rfl (x := .none) rfl (wpAny_pure q))
theorem alive_none {a : Addr} {s : Shared} {Q : Option Obj → Shared → Prop} (ho : s.heap.get? a = none) (h : Q none s) : wpAny (model prog w) A (loadIfAlive a) Q E s := by
  have h' : Q (s.heap.get? a) s := by rw [ho]; exact h
  exact fun _ _ _ => h'
theorem zn_own_gone {s : Shared} {T : Addr} {f : Value} (hz : IsZipF s.heap z TI TO (rawInt T) f) (hT : s.heap.get? T = none) (Q : Bool → Shared → Prop) (q : Q true s) : wpAny (model prog w) A (Builtin.SmallTypes.ownedTupleIsFree (.ref z)) Q E s := by
  unfold Builtin.SmallTypes.ownedTupleIsFree
  refine wpAny_bind (wpAny_field hz rfl (x := rawInt T) rfl ?_)
  show wpAny _ _ (loadIfAlive ((T : Int).toNat) >>= _) _ _ _
  rw [Int.toNat_natCast]
  refine wpAny_bind (alive_none hT ?_)
  simp only [Option.isNone_none, if_true]
  exact wpAny_pure q
/-- a zip between two turns -/
def ZnSt (z TI TO : Addr) (L : List (Addr × Addr)) (i : Nat) (h : Heap) : Prop :=
  (∃ (f : Bool), IsZipF h z TI TO .none (.bool f) ∨ ∃ T : Addr, IsZipF h z TI TO (rawInt T) (.bool f)) ∧ IsTupA h TI (L.map fun p => Value.ref p.1).toArray ∧ (∃ arr, IsTupA h TO arr ∧ arr.size = L.length) ∧ ∀ p ∈ L, h.IsTupleIter p.1 p.2 i
theorem zn_item {Q : Option Value → Shared → Prop} {s : Shared} (S : ZnSep z TI TO L) (hh : A.in1.handled = none) (st : ZnSt z TI TO (L.map fun p => (p.1, p.2.1)) i s.heap) (hs : ∀ p ∈ L, s.heap.IsTuple p.2.1 p.2.2) (hlt : ∀ p ∈ L, i < p.2.2.size) (hL : 0 < L.length) (hL2 : L.length ≤ 1000)
    (hQ : ∀ h' tk, ZnSt z TI TO (L.map fun p => (p.1, p.2.1)) (i + 1) h' → IsTupA h' s.heap.objs.size (ZnVal L i).toArray → h'.objs.size = s.heap.objs.size + 1 →
      (∀ c o, c ≠ z → c ≠ TO → (∀ p ∈ L, c ≠ p.1) → s.heap.get? c = some o → h'.get? c = some o) → Q (some (.ref s.heap.objs.size)) { s with heap := h', toks := tk }) : wpAny (model prog w) A (pyNext (.ref z)) Q E s := by
  obtain ⟨⟨f, hz⟩, hTI, hTO, hit⟩ := st
  have eT : ((L.map fun p => (p.1, p.2.1)).map fun p => Value.ref p.1) = L.map fun p => Value.ref p.1 := by simp
  have eL : (L.map fun p => (p.1, p.2.1)).length = L.length := by simp
  rw [eT] at hTI
  rw [eL] at hTO
  have at0 : ZnAt L i 0 s.heap := fun k p hp => by
    have hm := List.mem_of_getElem? hp
    rw [if_neg (Nat.not_lt_zero k)]
    exact ⟨hit _ (List.mem_map.mpr ⟨p, hm, rfl⟩), hs p hm⟩
  have hTy : s.TypeIs (.ref z) "zip" := by rcases hz with hz | ⟨T, hz⟩ <;> exact ⟨_, hz, rfl⟩
  have back : ∀ h', ZnAt L (i + 1) 0 h' → ∀ p ∈ (L.map fun p => (p.1, p.2.1)), h'.IsTupleIter p.1 p.2 (i + 1) := fun h' a p hp => by
    obtain ⟨q, hq, rfl⟩ := List.mem_map.mp hp
    obtain ⟨k, hk, e⟩ := List.getElem_of_mem hq
    have := (a k q (by rw [List.getElem?_eq_getElem hk, e])).1
    rwa [if_neg (Nat.not_lt_zero k)] at this
  unfold pyNext
  refine wpAny_bind (wpAny_attempt (wpAny_callSpecial?_slot (name := Str.ofString "__next__") hTy F.slot_zip_next (wpAny_call_entry F.slot_zip_next hTy F.entry_zip_next ?_ (F.args_zip_next_1 _))))
  have own : ∀ x0 : Value, IsZipF s.heap z TI TO x0 (.bool f) → (∀ {E2 : Value → Shared → Prop} (Q : Bool → Shared → Prop), Q true s → wpAny (model prog w) A.in1 (Builtin.SmallTypes.ownedTupleIsFree (.ref z)) Q E2 s) → ∀ {E2 : Value → Shared → Prop}, wpAny (model prog w) A.in1 (Builtin.«zip.__next__» ⟨[.ref z], []⟩) (fun fin s' => ∃ v, fin = .done (.ret v) ∧ wpAny (model prog w) A (pure (some v)) Q E s') E2 s := fun x0 hz hown {E2} =>
    zn_next_own S hh hz (fun Q q => hown Q q) hTI hTO at0 hlt hL hL2 fun h' tk hz' at' hTO' hT hsz kp => wpAny_pure (hQ h' tk ⟨⟨false, .inr ⟨_, hz'⟩⟩, by rw [eT]; exact kp _ _ S.TIz S.TITO (fun p hp => (S.ap p hp).2.1.symm) hTI, by rw [eL]; exact hTO', back h' at'⟩ hT hsz kp)
  rcases hz with hz | ⟨T, hz⟩
  · exact own _ hz fun Q q => zn_own_none hz Q q
  · cases hT : s.heap.get? T with
    | none => exact own _ hz fun Q q => zn_own_gone hz hT Q q
    | some oT =>
      refine zn_next_out S hh hz hTI at0 hlt hL hL2 (fun Q q => zn_free_out hz hT q) fun h' tk f' hz' at' hTT hsz kp => wpAny_pure (hQ h' tk ⟨?_, by rw [eT]; exact kp _ _ S.TIz (fun p hp => (S.ap p hp).2.1.symm) hTI, ?_, back h' at'⟩ hTT hsz fun c o cz cT cp e => kp c o cz cp e)
      · exact ⟨f', .inr ⟨T, hz'⟩⟩
      · obtain ⟨arr, a1, a2⟩ := hTO
        exact ⟨arr, kp _ _ S.TOz (fun p hp => (S.ap p hp).2.2.1.symm) a1, by rw [eL]; exact a2⟩
theorem zn_stop {Q : Option Value → Shared → Prop} {s : Shared} {p : Addr × Addr × Array Value} (S : ZnSep z TI TO L) (hh : A.in1.handled = none) (st : ZnSt z TI TO (L.map fun p => (p.1, p.2.1)) i s.heap) (hs : ∀ p ∈ L, s.heap.IsTuple p.2.1 p.2.2) (hp0 : L[0]? = some p) (hend : i = p.2.2.size)
    (hQ : ∀ h', (∀ c o, c ≠ z → (∀ p ∈ L, c ≠ p.1) → s.heap.get? c = some o → h'.get? c = some o) → Q none { s with heap := h' }) : wpAny (model prog w) A (pyNext (.ref z)) Q E s := by
  obtain ⟨⟨f, hz⟩, hTI, _, hit⟩ := st
  have eT : ((L.map fun p => (p.1, p.2.1)).map fun p => Value.ref p.1) = L.map fun p => Value.ref p.1 := by simp
  rw [eT] at hTI
  have at0 : ZnAt L i 0 s.heap := fun k p hp => by
    have hm := List.mem_of_getElem? hp
    rw [if_neg (Nat.not_lt_zero k)]
    exact ⟨hit _ (List.mem_map.mpr ⟨p, hm, rfl⟩), hs p hm⟩
  have hTy : s.TypeIs (.ref z) "zip" := by rcases hz with hz | ⟨T, hz⟩ <;> exact ⟨_, hz, rfl⟩
  have fin : ∀ h' e, (∀ c o, c ≠ z → (∀ p ∈ L, c ≠ p.1) → s.heap.get? c = some o → h'.get? c = some o) → (∃ o, h'.get? e = some o ∧ o.cls = .type "StopIteration") → wpAny (model prog w) A (do
      let __do_lift ← isInstance (.ref e) (Value.type "StopIteration")
      if __do_lift = true then pure none else throw (.ref e)) Q E { s with heap := h' } := fun h' e kp ⟨o, ho, hc⟩ => by
    refine wpAny_bind (wpAny_isInstance (T := "StopIteration") (b := true) ⟨o, ho, hc⟩ isSubtype_stop ?_)
    exact wpAny_pure (hQ _ kp)
  unfold pyNext
  refine wpAny_bind (wpAny_attempt (wpAny_callSpecial?_slot (name := Str.ofString "__next__") hTy F.slot_zip_next (wpAny_call_entry F.slot_zip_next hTy F.entry_zip_next ?_ (F.args_zip_next_1 _))))
  rcases hz with hz | ⟨T, hz⟩
  · exact zn_end_own S hh hz (fun Q q => zn_own_none hz Q q) hTI at0 hp0 hend fin
  · cases hT : s.heap.get? T with
    | none => exact zn_end_own S hh hz (fun Q q => zn_own_gone hz hT Q q) hTI at0 hp0 hend fin
    | some oT => exact zn_end_out S hh hz hTI at0 hp0 hend (fun Q q => zn_free_out hz hT q) fin
end
end DL
namespace DL
open PySem PySem.Spec L2
open PyProof.Rows hiding St
def ItzN (K : PySem.W.Frag) (as : List Addr) : It :=
  ⟨fun i H => ∀ a ∈ as, ∃ xs, SqT K H a xs ∧ i < xs.length,
   fun i H v H' => ∃ T us, v = .ref T ∧ H T = none ∧ H' = upd H T (.tup us) ∧ us.length = as.length ∧ ∀ (k : Nat) (a : Addr), as[k]? = some a → ∀ xs, SqT K H a xs → us[k]? = xs[i]?,
   fun i H => (∀ a ∈ as, ∃ xs, SqT K H a xs) ∧ ∃ a xs, as[0]? = some a ∧ SqT K H a xs ∧ i = xs.length⟩
section
variable {X : Cx} {pins : List (Addr × Obj)} {σ : L2.St} {H : Hp} {s : Shared}
theorem zn_lists (I : Inv X pins σ H s) (i : Nat) : ∀ (Lia : List (Addr × Addr)), (∀ q ∈ Lia, ∃ xs, SqT X.K H q.2 xs ∧ i < xs.length) → ∃ (L : ZL) (us : List V), L.map (fun p => (p.1, p.2.1)) = Lia ∧ (∀ p ∈ L, s.heap.IsTuple p.2.1 p.2.2 ∧ i < p.2.2.size) ∧ Vals us (ZnVal L i) ∧ us.length = Lia.length ∧ ∀ (k : Nat) (q : Addr × Addr), Lia[k]? = some q → ∀ xs, SqT X.K H q.2 xs → us[k]? = xs[i]?
  | [], _ => ⟨[], [], rfl, by intro p hp; simp at hp, .nil, rfl, by intro k q hk; simp at hk⟩
  | q :: Lia, h => by
    obtain ⟨L, us, e1, e2, e3, e4, e5⟩ := zn_lists I i Lia fun q hq => h q (List.mem_cons_of_mem _ hq)
    obtain ⟨xs, hx, hi⟩ := h q List.mem_cons_self
    obtain ⟨its, rv, p, _, _⟩ := inv_s (t := true) I hx
    have l := rv.length
    obtain ⟨u, hu, ru⟩ := rv.get (List.getElem?_eq_getElem hi)
    refine ⟨(q.1, q.2, its.toArray) :: L, xs[i] :: us, by simp [e1], ?_, ?_, by simp [e4], ?_⟩
    · intro p' hp'
      rcases List.mem_cons.mp hp' with rfl | hp'
      · exact ⟨p, by simp; omega⟩
      · exact e2 p' hp'
    · have : ZnVal ((q.1, q.2, its.toArray) :: L) i = u :: ZnVal L i := by simp [ZnVal, hu]
      rw [this]
      exact .cons ru e3
    · intro k q' hk ys hy
      cases k with
      | zero =>
        simp at hk; subst hk
        have := inv_inj (t := true) I hy hx
        subst this
        simp [hi]
      | succ k => simpa using e5 k q' (by simpa using hk) ys hy
end
theorem turn_zipN {P : Program} {w : World} {K : PySem.W.Frag} {y : Str} {tpos : Pos} {Lia : List (Addr × Addr)} {z TI TO : Addr} (hS : ∀ L : ZL, L.map (fun p => (p.1, p.2.1)) = Lia → ZnSep z TI TO L) (hL : 0 < Lia.length) (hL2 : Lia.length ≤ 1000) :
    Turn P w K (.Name y tpos) (ItzN K (Lia.map (·.2))) (z :: TI :: TO :: Lia.map (·.1)) z (fun i h => ZnSt z TI TO Lia i h) where
  mem := by simp
  obj := fun i h st c hc => by
    obtain ⟨⟨f, hz⟩, hTI, ⟨arr, hTO, _⟩, hit⟩ := st
    rcases List.mem_cons.mp hc with rfl | hc
    · rcases hz with hz | ⟨T, hz⟩ <;> exact ⟨_, hz, fun v q => nomatch q⟩
    · rcases List.mem_cons.mp hc with rfl | hc
      · exact ⟨_, hTI, fun v q => nomatch q⟩
      · rcases List.mem_cons.mp hc with rfl | hc
        · exact ⟨_, hTO, fun v q => nomatch q⟩
        · obtain ⟨p, hp, rfl⟩ := List.mem_map.mp hc
          exact IterAt.obj (t := true) (hit p hp)
  keep := fun i h h' st k => by
    obtain ⟨⟨f, hz⟩, hTI, ⟨arr, hTO, ha⟩, hit⟩ := st
    refine ⟨⟨f, ?_⟩, k TI (by simp) _ hTI, ⟨arr, k TO (by simp) _ hTO, ha⟩, fun p hp => (hit p hp).at fun o q => k p.1 (by simp only [List.mem_cons]; exact .inr (.inr (.inr (List.mem_map.mpr ⟨p, hp, rfl⟩)))) o q⟩
    rcases hz with hz | ⟨T, hz⟩
    · exact .inl (k z (by simp) _ hz)
    · exact .inr ⟨T, k z (by simp) _ hz⟩
  item := by
    intro X hP hw hK hc i pins s σ H E I hf st hg
    subst hP hw hK
    obtain ⟨L, us, e1, e2, e3, e4, e5⟩ := zn_lists I i Lia fun q hq => hg q.2 (List.mem_map.mpr ⟨q, hq, rfl⟩)
    have S := hS L e1
    have lL : L.length = Lia.length := by rw [← e1, List.length_map]
    subst e1
    refine zn_item S (show X.A.in1.handled = none from I.ok.hd hc) st (fun p hp => (e2 p hp).1) (fun p hp => (e2 p hp).2) (by omega) (by omega) fun h' tk st' hT hsz kp => ⟨_, rfl, wpAny_pure ?_⟩
    have old : ∀ c o, c ∉ z :: TI :: TO :: (L.map fun p => (p.1, p.2.1)).map (·.1) → s.heap.get? c = some o → h'.get? c = some o := fun c o hn e => kp c o (fun q => hn (by simp [q])) (fun q => hn (by simp [q])) (fun p hp q => hn (by
      rw [q]
      simp only [List.mem_cons]
      exact .inr (.inr (.inr (List.mem_map.mpr ⟨(p.1, p.2.1), List.mem_map.mpr ⟨p, hp, rfl⟩, rfl⟩))))) e
    have hus : us.length ≤ sizeLine := by
      rw [e4, List.length_map]
      exact Nat.le_trans (show L.length ≤ 1000 by omega) (by decide)
    have new : ObjOk X.prog X.w (upd H s.heap.objs.size (.tup us)) h' s.heap.objs.size (.tup us) := ⟨hus, ZnVal L i, e3, ⟨_, hT, rfl, 0, rfl⟩⟩
    have I1 : Inv X pins σ (upd H s.heap.objs.size (.tup us)) { s with heap := h', toks := tk } := I.turnedNew (t' := tk) (ch := z :: TI :: TO :: (L.map fun p => (p.1, p.2.1)).map (·.1)) old hf (Nat.le_refl _) new
    have nT := I.hok.fresh (Nat.le_refl s.heap.objs.size)
    refine ⟨.ref s.heap.objs.size, _, I1, rfl, ⟨s.heap.objs.size, us, rfl, nT, rfl, by rw [e4]; simp, fun k a hk xs hx => ?_⟩, st', fun c hcm => ?_⟩
    · rw [List.getElem?_map] at hk
      obtain ⟨q, hq, rfl⟩ := Option.map_eq_some_iff.mp hk
      exact e5 k q hq xs hx
    · have hlt : c < s.heap.objs.size := by
        obtain ⟨⟨f, hz⟩, hTI, ⟨arr, hTO, ha⟩, hit⟩ := st
        rcases List.mem_cons.mp hcm with rfl | hc
        · rcases hz with hz | ⟨T, hz⟩ <;> exact Heap.lt_size hz
        · rcases List.mem_cons.mp hc with rfl | hc
          · exact Heap.lt_size hTI
          · rcases List.mem_cons.mp hc with rfl | hc
            · exact Heap.lt_size hTO
            · obtain ⟨p, hp, rfl⟩ := List.mem_map.mp hc
              obtain ⟨_, e, _⟩ := IterAt.obj (t := true) (hit p hp)
              exact Heap.lt_size e
      rw [upd_ne (Nat.ne_of_lt hlt)]
      exact (hf c hcm).1
  done := by
    intro X hP hw hK hc i pins s σ H E I hf st hg
    subst hP hw hK
    obtain ⟨hall, a, xs, ha, hx, hend⟩ := hg
    have mk : ∀ (Lia : List (Addr × Addr)), (∀ q ∈ Lia, ∃ xs, SqT X.K H q.2 xs) → ∃ (L : ZL), L.map (fun p => (p.1, p.2.1)) = Lia ∧ (∀ p ∈ L, s.heap.IsTuple p.2.1 p.2.2 ∧ ∀ xs, SqT X.K H p.2.1 xs → p.2.2.size = xs.length) := by
      intro Lia
      induction Lia with
      | nil => intro _; exact ⟨[], rfl, by intro p hp; simp at hp⟩
      | cons q Lia ih =>
        intro h
        obtain ⟨L, e1, e2⟩ := ih fun q hq => h q (List.mem_cons_of_mem _ hq)
        obtain ⟨ys, hy⟩ := h q List.mem_cons_self
        obtain ⟨its, rv, p, _, _⟩ := inv_s (t := true) I hy
        refine ⟨(q.1, q.2, its.toArray) :: L, by simp [e1], fun p' hp' => ?_⟩
        rcases List.mem_cons.mp hp' with rfl | hp'
        · refine ⟨p, fun xs hx => ?_⟩
          have := inv_inj (t := true) I hx hy
          subst this
          have l := rv.length
          simp; omega
        · exact e2 p' hp'
    obtain ⟨L, e1, e2⟩ := mk Lia fun q hq => hall q.2 (List.mem_map.mpr ⟨q, hq, rfl⟩)
    have S := hS L e1
    subst e1
    rw [List.getElem?_map, List.getElem?_map] at ha
    simp only [Option.map_map, Option.map_eq_some_iff] at ha
    obtain ⟨p, hp, rfl⟩ := ha
    have hm := List.mem_of_getElem? hp
    refine zn_stop S (show X.A.in1.handled = none from I.ok.hd hc) st (fun p hp => (e2 p hp).1) hp (by rw [hend]; exact ((e2 p hm).2 xs hx).symm) fun h' kp => ⟨rfl, ?_⟩
    refine I.turnedL (t' := s.toks) (ch := z :: TI :: TO :: (L.map fun p => (p.1, p.2.1)).map (·.1)) (fun c o hn e => kp c o (fun q => hn (by simp [q])) (fun p hp q => hn (by
      rw [q]
      simp only [List.mem_cons]
      exact .inr (.inr (.inr (List.mem_map.mpr ⟨(p.1, p.2.1), List.mem_map.mpr ⟨p, hp, rfl⟩, rfl⟩))))) e) hf
  self := fun A i s Q E st h => by
    obtain ⟨⟨f, hz⟩, _⟩ := st
    have hTy : s.TypeIs (.ref z) "zip" := by rcases hz with hz | ⟨T, hz⟩ <;> exact ⟨_, hz, rfl⟩
    refine wpAny_pyIter_slot hTy F.slot_zip_iter (wpAny_call_entry F.slot_zip_iter hTy F.entry_zip_iter ?_ (F.args_zip_iter_1 _))
    show wpAny _ _ (ret (.ref z)) _ _ s
    exact wpAny_pure ⟨_, rfl, "zip", _, hTy, F.slot_zip_next.lookup, h⟩
end DL
namespace DL
open PySem PySem.Spec L2
open PyProof.Rows hiding St
theorem callWith_typeS {M : Model} {A : Around} {E : Value → Shared → Prop} {s : Shared} {pos pos2 : Pos} {T : String} {x : Sem Value} {Q : Value → Shared → Prop}
    (h : wpAny M A x (fun v s₁ => PySem.W.StarOf M A E v (fun vs s₂ => wpAny M A (call (.type T) vs) Q E s₂) s₁) E s) :
    wpAny M A (callWith pos (.type T) [] [(true, (do let v ← x; standAt pos2; pure v))] []) Q E s := by
  unfold callWith
  refine wpAny_bind (wpAny_holding (wpAny_mono (PySem.W.ks_lone (f := .type T) (Q := fun a s₁ => a.kw = [] ∧ wpAny M A (call (.type T) a.pos) Q E s₁) (by
    refine wpAny_mono h (fun v s₁ h₁ => ?_) fun _ _ x => x
    unfold PySem.W.StarOf at h₁ ⊢
    refine wpAny_mono h₁ (fun b s2 ⟨h2, h3⟩ => ⟨h2, wpAny_mono h3 (fun vs s3 h4 => ⟨rfl, h4⟩) fun _ _ x => x⟩) fun _ _ x => x)) (fun a s₁ h₁ => wpAny_bind (wpAny_standAt ?_)) fun _ _ x => x))
  obtain ⟨e, h₁⟩ := h₁
  simp only [List.any_cons, Bool.true_or, List.any_nil, Bool.or_false]
  refine wpAny_bind (wpAny_pure ?_)
  refine wpAny_bind (wpAny_operate' ?_)
  rw [e]
  refine wpAny_mono h₁ (fun r s₂ hr => wpAny_bind (wpAny_holding (wpAny_point (wpAny_pure hr)))) fun _ _ x => x
local macro_rules
  | `(tactic| walk_at "N") => `(tactic| ((try dsimp only); show ¬ ((_ : Nat) = (_ : Nat)); omega))
  | `(tactic| walk_at "P") => `(tactic| (simp only [List.map_cons, List.map_nil, List.nodup_cons, List.mem_cons, List.not_mem_nil, or_false, not_or, not_false_eq_true, and_true, List.nodup_nil]; repeat (first | refine ⟨?_, ?_⟩ | walk_at "N")))
/-- a zip of two or three tuples that has just been made -/
theorem zipN_begins {prog : Program} {w : World} {A : Around} {E : Value → Shared → Prop} {s : Shared} {as : List Addr} {Q : Value → Shared → Prop} (h23 : as.length = 2 ∨ as.length = 3) (ht : ∀ a ∈ as, ∃ items, s.heap.IsTuple a items)
    (h : ∀ (h' : Heap) (z TI TO : Addr) (Lia : List (Addr × Addr)), Lia.map (·.2) = as → (∀ L : ZL, L.map (fun p => (p.1, p.2.1)) = Lia → ZnSep z TI TO L) → ZnSt z TI TO Lia 0 h' → (∀ c ∈ z :: TI :: TO :: Lia.map (·.1), s.heap.objs.size ≤ c) → (∀ c o, s.heap.get? c = some o → h'.get? c = some o) → Q (.ref z) { s with heap := h' }) :
    wpAny (model prog w) A (call (.type "zip") (as.map Value.ref)) Q E s := by
  have bt : ∀ (a : Addr) (items : Array Value), Begins (.ref a) (iterObj true a) fun h => PlainS h true a items := begins_s true
  match as, h23 with
  | [a, b], _ =>
    obtain ⟨xa, ha⟩ := ht a (by simp)
    obtain ⟨xb, hb⟩ := ht b (by simp)
    have la : @LT.lt Nat _ a s.heap.objs.size := by obtain ⟨o, e, _⟩ := ha; exact Heap.lt_size e
    have lb : @LT.lt Nat _ b s.heap.objs.size := by obtain ⟨o, e, _⟩ := hb; exact Heap.lt_size e
    refine zip_begins2 (bt a xa) (bt b xb) ha hb fun h' hz hTI hTO h1 h2 hsz hk => ?_
    refine h h' (s.heap.objs.size + 4) (s.heap.objs.size + 2) (s.heap.objs.size + 3) [(s.heap.objs.size, a), (s.heap.objs.size + 1, b)] rfl (fun L e => ?_) ⟨⟨false, .inl hz⟩, hTI, ⟨_, hTO, rfl⟩, ?_⟩ ?_ hk
    · match L, e with
      | [(i1, a', x1), (i2, b', x2)], e =>
        simp only [List.map_cons, List.map_nil, List.cons.injEq, Prod.mk.injEq, and_true] at e
        obtain ⟨⟨rfl, rfl⟩, rfl, rfl⟩ := e
        refine ⟨by walk_at "N", by walk_at "N", by walk_at "N", by walk_at "P", ?_, ?_⟩
        · intro p hp; simp at hp; rcases hp with rfl | rfl <;> exact ⟨by walk_at "N", by walk_at "N", by walk_at "N", by walk_at "N", by walk_at "N"⟩
        · intro p hp q hq; simp at hp hq; rcases hp with rfl | rfl <;> rcases hq with rfl | rfl <;> walk_at "N"
    · intro p hp; simp at hp; rcases hp with rfl | rfl
      · exact iterAt_mk (t := true) h1
      · exact iterAt_mk (t := true) h2
    · intro c hc; simp at hc; rcases hc with rfl | rfl | rfl | rfl | rfl <;> first | exact Nat.le_refl _ | exact Nat.le_add_right _ _
  | [a, b, d], _ =>
    obtain ⟨xa, ha⟩ := ht a (by simp)
    obtain ⟨xb, hb⟩ := ht b (by simp)
    obtain ⟨xd, hd⟩ := ht d (by simp)
    have la : @LT.lt Nat _ a s.heap.objs.size := by obtain ⟨o, e, _⟩ := ha; exact Heap.lt_size e
    have lb : @LT.lt Nat _ b s.heap.objs.size := by obtain ⟨o, e, _⟩ := hb; exact Heap.lt_size e
    have ld : @LT.lt Nat _ d s.heap.objs.size := by obtain ⟨o, e, _⟩ := hd; exact Heap.lt_size e
    refine zip_begins3 (bt a xa) (bt b xb) (bt d xd) ha hb hd fun h' hz hTI hTO h1 h2 h3 hsz hk => ?_
    refine h h' (s.heap.objs.size + 5) (s.heap.objs.size + 3) (s.heap.objs.size + 4) [(s.heap.objs.size, a), (s.heap.objs.size + 1, b), (s.heap.objs.size + 2, d)] rfl (fun L e => ?_) ⟨⟨false, .inl hz⟩, hTI, ⟨_, hTO, rfl⟩, ?_⟩ ?_ hk
    · match L, e with
      | [(i1, a', x1), (i2, b', x2), (i3, d', x3)], e =>
        simp only [List.map_cons, List.map_nil, List.cons.injEq, Prod.mk.injEq, and_true] at e
        obtain ⟨⟨rfl, rfl⟩, ⟨rfl, rfl⟩, rfl, rfl⟩ := e
        refine ⟨by walk_at "N", by walk_at "N", by walk_at "N", by walk_at "P", ?_, ?_⟩
        · intro p hp; simp at hp; rcases hp with rfl | rfl | rfl <;> exact ⟨by walk_at "N", by walk_at "N", by walk_at "N", by walk_at "N", by walk_at "N"⟩
        · intro p hp q hq; simp at hp hq; rcases hp with rfl | rfl | rfl <;> rcases hq with rfl | rfl | rfl <;> walk_at "N"
    · intro p hp; simp at hp; rcases hp with rfl | rfl | rfl
      · exact iterAt_mk (t := true) h1
      · exact iterAt_mk (t := true) h2
      · exact iterAt_mk (t := true) h3
    · intro c hc; simp at hc; rcases hc with rfl | rfl | rfl | rfl | rfl | rfl <;> first | exact Nat.le_refl _ | exact Nat.le_add_right _ _
def iZipN (K : PySem.W.Frag) (te : TE) : TI := fun σ H R => te σ H fun x H1 => ∃ (p : Addr) (as : List Addr), x = .ref p ∧ (SqT K H1 p (as.map V.ref) ∨ SqL K H1 p (as.map V.ref)) ∧ (as.length = 2 ∨ as.length = 3) ∧ (∀ a ∈ as, ∃ xs, SqT K H1 a xs) ∧ R (ItzN K as) H1
theorem vals_refs : ∀ {as : List Addr} {us : List Value}, Vals (as.map V.ref) us → us = as.map Value.ref
  | [], _, r => by cases r; rfl
  | a :: as, _, r => by
    simp only [List.map_cons] at r
    cases r with
    | cons r rr =>
      have e : _ = Value.ref a := r
      rw [e, vals_refs rr]; rfl
theorem pi_zipN {X : Cx} {e : Expr} {te : TE} {y : Str} {p sp pos tpos : Pos} (hg : Gl X "zip") (hm : X.mg "zip" = none) (he : PE X e te) (hs : starEach [.Starred e sp] X.env = [(true, eval e X.env)] := by rfl) :
    PI X (.Name y tpos) (.Call (.Name "zip" p) [.Starred e sp] [] pos) (iZipN X.K te) := by
  refine ⟨fun pins s σ H R I h => ?_⟩
  refine Call_ (ld_blt I hg hm PyProof.Rows.boot_zip ?_)
  rw [hs]
  refine callWith_typeS (thn (he.run pins s σ H _ I h) fun u s1 ⟨x, H1, I1, r1, q1⟩ => ?_)
  obtain ⟨p0, as, ex, hx, h23, hall, q⟩ := q1
  subst ex
  obtain rfl : u = Value.ref p0 := r1
  refine StX.star_any I1 hx fun us s2 I2 rv => ?_
  obtain rfl := vals_refs rv
  refine zipN_begins h23 (fun a ha => ?_) fun h' z TI TO Lia e1 hS st hge hk => ?_
  · obtain ⟨xs, hxs⟩ := hall a ha
    obtain ⟨its, _, pl, _, _⟩ := inv_s (t := true) I2 hxs
    exact ⟨_, pl⟩
  have hL : Lia.length = as.length := by rw [← e1, List.length_map]
  have I3 : Inv X pins σ H1 { s2 with heap := h' } := I2.kept (t' := s2.toks) hk
  have T := turn_zipN (P := X.prog) (w := X.w) (K := X.K) (y := y) (tpos := tpos) hS (by omega) (by omega)
  rw [e1] at T
  refine T.self X.A 0 _ _ _ st ?_
  refine ⟨z, _, _, _, H1, rfl, I3, T, st, fun c hc => ?_, q⟩
  exact I2.fpOk (hge c hc) (I2.hok.fresh (hge c hc))
end DL
namespace DL
open PySem PySem.Spec L2
open PyProof.Rows hiding St
/-- the columns of these rows -/
def colsD (rows : List (List D)) (m : Nat) : List D := (List.range m).map fun i => .tup (rows.map fun r => r.getD i .non)
theorem colsD_len (rows : List (List D)) (m : Nat) : (colsD rows m).length = m := by simp [colsD]
theorem colsD_get {rows : List (List D)} {m i : Nat} (h : i < m) : (colsD rows m)[i]? = some (.tup (rows.map fun r => r.getD i .non)) := by simp [colsD, h]
/-- rows at addresses -/
inductive RowsAt (K : PySem.W.Frag) (H : Hp) : List (List D) → List Addr → Prop
  | nil : RowsAt K H [] []
  | cons {r : List D} {a : Addr} {vs : List V} {rs : List (List D)} {as : List Addr} : SqT K H a vs → Reps K H r vs → RowsAt K H rs as → RowsAt K H (r :: rs) (a :: as)
theorem RowsAt.of {K : PySem.W.Frag} {H : Hp} : ∀ {rows : List (List D)} {vs : List V}, Reps K H (rows.map D.tup) vs → ∃ as : List Addr, vs = as.map V.ref ∧ RowsAt K H rows as
  | [], _, r => by
    obtain rfl := reps_nil (by simpa using r)
    exact ⟨[], rfl, .nil⟩
  | r :: rows, _, q => by
    simp only [List.map_cons] at q
    obtain ⟨v, r', rfl, a, b⟩ := reps_cons q
    obtain ⟨p, ws, rfl, s, w⟩ := rep_tup a
    obtain ⟨as, rfl, h⟩ := RowsAt.of b
    exact ⟨p :: as, rfl, .cons s w h⟩
theorem RowsAt.mono {K : PySem.W.Frag} {H H' : Hp} (t : TupMono H H') : ∀ {rows : List (List D)} {as : List Addr}, RowsAt K H rows as → RowsAt K H' rows as
  | _, _, .nil => .nil
  | _, _, .cons s r h => .cons (t.sqt s) (r.mono t) (h.mono t)
theorem RowsAt.len {K : PySem.W.Frag} {H : Hp} : ∀ {rows : List (List D)} {as : List Addr}, RowsAt K H rows as → as.length = rows.length
  | _, _, .nil => rfl
  | _, _, .cons _ _ h => by simp [h.len]
theorem RowsAt.all {K : PySem.W.Frag} {H : Hp} {m : Nat} : ∀ {rows : List (List D)} {as : List Addr}, RowsAt K H rows as → (∀ r ∈ rows, r.length = m) → ∀ a ∈ as, ∃ xs, SqT K H a xs ∧ xs.length = m
  | _, _, .nil, _, a, ha => by simp at ha
  | _, _, .cons s r h, hm, a, ha => by
    rcases List.mem_cons.mp ha with rfl | ha
    · exact ⟨_, s, by rw [← r.len]; exact hm _ List.mem_cons_self⟩
    · exact h.all (fun r hr => hm r (List.mem_cons_of_mem _ hr)) a ha
theorem RowsAt.col {K : PySem.W.Frag} {H : Hp} {i m : Nat} (hi : i < m) : ∀ {rows : List (List D)} {as : List Addr} {us : List V}, RowsAt K H rows as → (∀ r ∈ rows, r.length = m) → us.length = as.length →
    (∀ (k : Nat) (a : Addr), as[k]? = some a → ∀ xs, SqT K H a xs → us[k]? = xs[i]?) → Reps K H (rows.map fun r => r.getD i .non) us
  | _, _, [], .nil, _, _, _ => by simp [Reps]
  | _, _, _ :: _, .nil, _, l, _ => by simp at l
  | _, _, [], .cons _ _ _, _, l, _ => by simp at l
  | _, _, u :: us, @RowsAt.cons _ _ r a vs rs as s q h, hm, l, f => by
    have hr : i < r.length := by rw [hm r List.mem_cons_self]; exact hi
    obtain ⟨v, hv, rv⟩ := q.get (i := i) (d := r.getD i .non) (by simp [hr])
    have e := f 0 a rfl vs s
    rw [hv] at e
    simp at e
    subst e
    simp only [List.map_cons]
    unfold Reps
    exact ⟨u, us, rfl, rv, h.col hi (fun r hr => hm r (List.mem_cons_of_mem _ hr)) (by simpa using l) fun k a hk xs hx => by simpa using f (k + 1) a (by simpa using hk) xs hx⟩
def dZipN (te : DTE) : DTI := fun σ h R => te σ h fun x h1 => ∃ (rows : List (List D)) (m : Nat), itemsD h1 x = some (rows.map D.tup) ∧ (rows.length = 2 ∨ rows.length = 3) ∧ (∀ r ∈ rows, r.length = m) ∧ R (colsD rows m) (fun _ => True) h1
theorem di_zipN {X : Cx} {e : Expr} {te : DTE} {y : Str} {p sp pos tpos : Pos} (hg : Gl X "zip") (hm : X.mg "zip" = none) (he : DE X e te) (hs : starEach [.Starred e sp] X.env = [(true, eval e X.env)] := by rfl) :
    DI X (.Name y tpos) (.Call (.Name "zip" p) [.Starred e sp] [] pos) (dZipN te) := (pi_zipN hg hm he hs).imp fun σ H R ⟨σD, h, RD, rs, q, pp⟩ => by
  refine ⟨σD, h, _, rs, q, fun d1 h1 v1 H1 q1 rs1 r1 k1 => ?_⟩
  obtain ⟨rows, m, ei, h23, hall, q1⟩ := q1
  obtain ⟨a, vs, rfl, sq, rr⟩ := items_of rs1.hr ei r1
  obtain ⟨as, rfl, ra⟩ := RowsAt.of rr
  have la := ra.len
  refine ⟨a, as, rfl, sq.symm, by rw [la]; exact h23, fun b hb => (ra.all hall b hb).imp fun xs hx => hx.1, ?_⟩
  refine pp _ _ h1 (ItzN X.K as) H1 q1 rs1 k1 ⟨fun i h H hi r st tm b hb => ?_, fun h H r st tm => ?_, fun i h H x H' hi r st tm y => ?_⟩
  · rw [colsD_len] at hi
    obtain ⟨xs, hx, lx⟩ := (ra.mono tm).all hall b hb
    exact ⟨xs, hx, by omega⟩
  · rw [colsD_len]
    refine ⟨fun b hb => ((ra.mono tm).all hall b hb).imp fun xs hx => hx.1, ?_⟩
    obtain ⟨b, hb⟩ : ∃ b, as[0]? = some b := ⟨as[0]'(by omega), List.getElem?_eq_getElem _⟩
    obtain ⟨xs, hx, lx⟩ := (ra.mono tm).all hall b (List.mem_of_getElem? hb)
    exact ⟨b, xs, hb, hx, lx.symm⟩
  · rw [colsD_len] at hi
    obtain ⟨T, us, rfl, nT, rfl, lu, f⟩ := y
    have c := (ra.mono tm).col hi hall lu f
    refine ⟨_, colsD_get hi, rep_tup_mk nT c, r.hid nT, fun c o z => ?_⟩
    rw [upd_ne (ne_of_none z nT)]
    exact z
end DL

namespace DL
open PySem PySem.Spec L2
open PyProof.Rows hiding St
def foldT (p : Int) (t : List Int) (m w : Nat) : List Int := (List.range w).map fun i => ((t.drop (i * m)).take m).sum % p
def spreadT (t : List Int) (m : Nat) : List Int := t.flatMap fun x => List.replicate m x
def halfT (t : List Int) (b : Int) : List Int := if b = 1 then t.drop (t.length / 2) else t.take (t.length / 2)
def mi (n i : Nat) (order : List Nat) : Nat := order.foldl (fun f k => f * 2 + i / 2 ^ (n - 1 - k) % 2) 0
def turnT (t : List Int) (order : List Nat) : List Int := (List.range t.length).map fun i => t.getD (mi order.length i order) 0
def tpT (x : List Int) (order : List Nat) : List Int := order.map fun k => x.getD k 0
def mulT (p : Int) (a b : List Int) (m r w : Nat) : List Int := (List.range r).flatMap fun i => (List.range w).map fun l => ((List.range m).map fun j => a.getD (i * m + j) 0 * b.getD (j * w + l) 0).sum % p
def pickT (p : Int) : List Int → List Int → List Int → List Int
  | c :: cs, a :: as, b :: bs => ((c * a + (1 - c) * b) % p) :: pickT p cs as bs
  | _, _, _ => []
def opT (p : Int) (word : String) (a b : List Int) : List Int := List.zipWith (fun x y => (if word = "add" then x + y else if word = "sub" then x - y else x * y) % p) a b
def allBits : Nat → List (List Int)
  | 0 => [[]]
  | k + 1 => (allBits k).flatMap fun b => [b ++ [0], b ++ [1]]
def Ord (order : List Nat) : Prop := order.length ≤ 8 ∧ ∀ k ∈ order, k < order.length
/-- what a form means, of the tables a, b, c -/
inductive FormT (p : Int) (n : Nat) (ta tb tc : List Int) : List D → List Int → Prop
  | add : FormT p n ta tb tc [.str "add", .str "a", .str "b"] (opT p "add" ta tb)
  | sub : FormT p n ta tb tc [.str "sub", .str "a", .str "b"] (opT p "sub" ta tb)
  | mul : FormT p n ta tb tc [.str "mul", .str "a", .str "b"] (opT p "mul" ta tb)
  | pick : FormT p n ta tb tc [.str "pick", .str "c", .str "a", .str "b"] (pickT p tc ta tb)
  | sum (k : Nat) : k ≤ n → FormT p n ta tb tc [.str "sum", .str "a", .int k] (foldT p ta (2 ^ k) (2 ^ (n - k)))
  | spread : FormT p n ta tb tc [.str "spread", .str "a", .int 1] (spreadT ta 2)
  | low : FormT p n ta tb tc [.str "low", .str "a"] (halfT ta 0)
  | high : FormT p n ta tb tc [.str "high", .str "a"] (halfT ta 1)
  | turn (order : List Nat) : Ord order → order.length = n → FormT p n ta tb tc [.str "turn", .str "a", .tup (NL order)] (turnT ta order)
  | join : FormT p n ta tb tc [.str "join", .str "a", .str "b"] (ta ++ tb)
  | product (k : Nat) : k ≤ n → FormT p n ta tb tc [.str "product", .str "a", .str "b", .int k] (mulT p ta tb (2 ^ k) (2 ^ (n - k)) (2 ^ (n - k)))
theorem rngC_some {lo c : Int} {n i : Nat} {d : D} (e : (rngC lo c n)[i]? = some d) : i < n ∧ d = .int (lo + (i : Nat) * c) := by
  have l : i < n := by
    have := (List.getElem?_eq_some_iff.mp e).1
    rwa [rngC_len] at this
  rw [rngC_get l] at e
  exact ⟨l, (Option.some.inj e).symm⟩
theorem mapIdx_rngC {lo c : Int} {n : Nat} (f : Nat → D) : (rngC lo c n).mapIdx (fun i _ => f i) = (List.range n).map f := by
  apply List.ext_getElem?
  intro j
  by_cases hj : j < n
  · simp [rngC_get hj, hj]
  · rw [List.getElem?_eq_none (by simp [rngC_len]; omega), List.getElem?_eq_none (by simp; omega)]
theorem chunk_sl {α : Type} (xs : List α) (i m : Nat) (h : (i + 1) * m ≤ xs.length) : cutG xs (some ((i : Int) * (m : Int))) (some ((i : Int) * (m : Int) + (m : Int))) = (xs.drop (i * m)).take m := by
  have e1 : ((i : Int) * (m : Int)) = ((i * m : Nat) : Int) := by simp
  rw [e1]
  have e2 : (((i * m : Nat) : Int) + (m : Int)) = ((i * m + m : Nat) : Int) := by simp
  rw [e2]
  have h' : i * m + m ≤ xs.length := by rw [Nat.add_mul] at h; omega
  have z1 : ¬ (((i * m : Nat) : Int) < 0) := by omega
  have z2 : ¬ (((i * m + m : Nat) : Int) < 0) := by omega
  have s1 : HT.sIx xs.length 0 (some ((i * m : Nat) : Int)) = i * m := by simp only [HT.sIx]; rw [if_neg z1]; omega
  have s2 : HT.sIx xs.length xs.length (some ((i * m + m : Nat) : Int)) = i * m + m := by simp only [HT.sIx]; rw [if_neg z2]; omega
  simp only [cutG, s1, s2]
  rw [Nat.add_sub_cancel_left]
theorem two_le {k : Nat} (h : k ≤ 8) : 2 ^ k ≤ 256 := Nat.le_trans (Nat.pow_le_pow_right (by decide) h) (by decide)
theorem mi_lt (n i : Nat) : ∀ (order : List Nat) (f : Nat) (m : Nat), f < 2 ^ m → order.foldl (fun f k => f * 2 + i / 2 ^ (n - 1 - k) % 2) f < 2 ^ (m + order.length)
  | [], f, m, h => by simpa using h
  | k :: r, f, m, h => by
    have := mi_lt n i r (f * 2 + i / 2 ^ (n - 1 - k) % 2) (m + 1) (by rw [Nat.pow_succ]; have := Nat.mod_lt (i / 2 ^ (n - 1 - k)) (show 0 < 2 by decide); omega)
    simpa [Nat.add_assoc, Nat.add_comm 1] using this
theorem zipWith_map {f : Int → Int → Int} : ∀ {a b : List Int}, (zipD (IL a) (IL b)).map (fun d => match d with
  | .tup [.int x, .int y] => D.int (f x y)
  | _ => .non) = IL (List.zipWith f a b)
  | [], _ => by simp [zipD]
  | _ :: _, [] => by simp [zipD]
  | t :: ts, w :: ws => by
    have := @zipWith_map f ts ws
    simpa [zipD] using this
def pickD (p : Int) : D → D
  | .tup [.int c, .int a, .int b] => .int ((c * a + (1 - c) * b) % p)
  | _ => .non
theorem pick_map (p : Int) : ∀ {c a b : List Int}, (zipD3 (IL c) (IL a) (IL b)).mapIdx (fun _ d => pickD p d) = IL (pickT p c a b)
  | [], _, _ => by simp [zipD3, pickT]
  | _ :: _, [], _ => by simp [zipD3, pickT]
  | _ :: _, _ :: _, [] => by simp [zipD3, pickT]
  | _ :: cs, _ :: as, _ :: bs => by
    have := @pick_map p cs as bs
    simpa [zipD3, pickT, pickD, List.mapIdx_cons] using this
theorem allBits_len : ∀ k, (allBits k).length = 2 ^ k
  | 0 => rfl
  | k + 1 => by simp [allBits, List.length_flatMap, List.map_const', List.sum_replicate_nat, allBits_len k, Nat.pow_succ]
theorem allBits_mem : ∀ (k : Nat) (bs : List Int), bs ∈ allBits k → bs.length = k ∧ ∀ b ∈ bs, 0 ≤ b ∧ b < 2
  | 0, bs, h => by simp [allBits] at h; subst h; simp
  | k + 1, bs, h => by
    simp only [allBits, List.mem_flatMap] at h
    obtain ⟨cs, hc, h⟩ := h
    obtain ⟨l, r⟩ := allBits_mem k cs hc
    simp only [List.mem_cons, List.not_mem_nil, or_false] at h
    rcases h with rfl | rfl
    · refine ⟨by simp [l], fun b hb => ?_⟩
      simp only [List.mem_append, List.mem_singleton] at hb
      rcases hb with hb | rfl
      · exact r b hb
      · decide
    · refine ⟨by simp [l], fun b hb => ?_⟩
      simp only [List.mem_append, List.mem_singleton] at hb
      rcases hb with hb | rfl
      · exact r b hb
      · decide
theorem map_erase : ∀ (xs : List Int) (k : Nat), IL (xs.eraseIdx k) = (IL xs).eraseIdx k
  | [], k => by simp
  | x :: xs, 0 => by simp
  | x :: xs, k + 1 => by simpa using map_erase xs k
theorem perm_erase : ∀ (xs : List Int) (k : Nat) (h : k < xs.length), (xs[k] :: xs.eraseIdx k).Perm xs
  | [], k, h => by simp at h
  | x :: xs, 0, h => by simp
  | x :: xs, k + 1, h => by
    have := perm_erase xs k (by simpa using h)
    simp only [List.getElem_cons_succ, List.eraseIdx_cons_succ]
    exact (List.Perm.swap x _ _).trans (this.cons x)
section
variable {h : DH} {Q : DK} {d : Addr} {ta tb tc : List Int}
theorem dget_a (e : h d = some (.dct [(.inr "a", .tup (IL ta)), (.inr "b", .tup (IL tb)), (.inr "c", .tup (IL tc))])) (q : Q (.tup (IL ta)) h) : rDGet (.ref d) (.str "a") h Q :=
  rDGet_ref (k := .inr "a") e rfl (by unfold valG; rw [if_pos rfl]) q
theorem dget_b (e : h d = some (.dct [(.inr "a", .tup (IL ta)), (.inr "b", .tup (IL tb)), (.inr "c", .tup (IL tc))])) (q : Q (.tup (IL tb)) h) : rDGet (.ref d) (.str "b") h Q :=
  rDGet_ref (k := .inr "b") e rfl (by unfold valG; rw [if_neg (by decide +kernel)]; unfold valG; rw [if_pos rfl]) q
theorem dget_c (e : h d = some (.dct [(.inr "a", .tup (IL ta)), (.inr "b", .tup (IL tb)), (.inr "c", .tup (IL tc))])) (q : Q (.tup (IL tc)) h) : rDGet (.ref d) (.str "c") h Q :=
  rDGet_ref (k := .inr "c") e rfl (by unfold valG; rw [if_neg (by decide +kernel)]; unfold valG; rw [if_neg (by decide +kernel)]; unfold valG; rw [if_pos rfl]) q
end
theorem spread2 : ∀ t : List Int, spreadT t 2 = (List.range (t.length * 2)).map fun i => t.getD (i / 2) 0
  | [] => rfl
  | x :: xs => by
    have ih := spread2 xs
    have : spreadT (x :: xs) 2 = [x, x] ++ spreadT xs 2 := rfl
    rw [this, ih]
    have e : (x :: xs).length * 2 = xs.length * 2 + 1 + 1 := by simp [Nat.add_mul]
    rw [e, List.range_succ_eq_map, List.range_succ_eq_map]
    simp
    intro a ha
    have : (a + 1 + 1) / 2 = a / 2 + 1 := by omega
    rw [this]; rfl
def modD (p : Int) : D → D
  | .int i => .int (i % p)
  | _ => .non
theorem rDGet2_ref {h : DH} {Q : DK} {a : Addr} {kvs : List (Key × D)} {y z : D} {k : Key} (e : h a = some (.dct kvs)) (ek : keyD y = some k) (q : Q ((valG kvs k).getD z) h) : rDGet2 (.ref a) y z h Q := by
  simpa [rDGet2, dictD, e, ek] using q
theorem dict_ref {h : DH} {a : Addr} {kvs : List (Key × D)} (e : h a = some (.dct kvs)) : ∃ k, dictD h (.ref a) = some k := ⟨kvs, by simp [dictD, e]⟩
theorem val2_a {x y : D} : valG [((.inr "add" : Key), x), (.inr "sub", y)] (.inr "add") = some x := by unfold valG; rw [if_pos rfl]
theorem val2_s {x y : D} : valG [((.inr "add" : Key), x), (.inr "sub", y)] (.inr "sub") = some y := by unfold valG; rw [if_neg (by decide +kernel)]; unfold valG; rw [if_pos rfl]
theorem val2_m {x y : D} : valG [((.inr "add" : Key), x), (.inr "sub", y)] (.inr "mul") = none := by unfold valG; rw [if_neg (by decide +kernel)]; unfold valG; rw [if_neg (by decide +kernel)]; rfl
theorem op_map {p : Int} {f : Int → Int → Int} : ∀ {a b : List Int}, (IL (List.zipWith f a b)).mapIdx (fun _ d => modD p d) = IL (List.zipWith (fun x y => f x y % p) a b) := by
  intro a b
  rw [mapIdx_const]
  induction a generalizing b with
  | nil => simp
  | cons x a ih =>
    cases b with
    | nil => simp
    | cons y b => simp only [List.zipWith_cons_cons, List.map_cons, ih, modD]
theorem mi_fold (n i : Nat) : ∀ (order : List Nat) (f : Nat), (order.map fun k => ((i / 2 ^ (n - 1 - k) % 2 : Nat) : Int)).foldl (fun f b => f * 2 + b) (f : Int) = ((order.foldl (fun f k => f * 2 + i / 2 ^ (n - 1 - k) % 2) f : Nat) : Int)
  | [], f => rfl
  | k :: r, f => by
    have := mi_fold n i r (f * 2 + i / 2 ^ (n - 1 - k) % 2)
    simp only [List.map_cons, List.foldl_cons]
    rw [← this]
    simp
theorem spread_take : ∀ (t : List Int) (m : Nat), (spreadT t 2).take (m * 2) = spreadT (t.take m) 2 ∧ (spreadT t 2).drop (m * 2) = spreadT (t.drop m) 2
  | [], m => by simp [spreadT]
  | x :: xs, 0 => by simp [spreadT]
  | x :: xs, m + 1 => by
    have := spread_take xs m
    have e : ∀ y (ys : List Int), spreadT (y :: ys) 2 = y :: y :: spreadT ys 2 := fun _ _ => rfl
    rw [Nat.add_mul]
    simp only [e, List.take_succ_cons, List.drop_succ_cons, Nat.one_mul]
    exact ⟨by rw [this.1], this.2⟩
theorem E_spread (z : Int) : ∀ (xs t : List Int), t.length = 2 ^ xs.length → K03.E (spreadT t 2) (xs ++ [z]) = K03.E t xs
  | [], t, h => by
    match t, h with
    | [a], _ => simp [spreadT, K03.E]; grind
  | x :: xs, t, h => by
    simp only [List.length_cons, Nat.pow_succ] at h
    have a1 := E_spread z xs (t.take (2 ^ xs.length)) (by rw [List.length_take]; omega)
    have a2 := E_spread z xs (t.drop (2 ^ xs.length)) (by rw [List.length_drop]; omega)
    have s := spread_take t (2 ^ xs.length)
    simp only [List.cons_append, K03.E, List.length_append, List.length_cons, List.length_nil, Nat.zero_add, Nat.pow_succ]
    rw [s.1, s.2, a1, a2]
theorem E_app {a b xs : List Int} (z : Int) (h : a.length = 2 ^ xs.length) : K03.E (a ++ b) (z :: xs) = (1 - z) * K03.E a xs + z * K03.E b xs := by
  simp only [K03.E, ← h, List.take_left, List.drop_left]
theorem half_app {a b : List Int} (h : a.length = b.length) : halfT (a ++ b) 0 = a ∧ halfT (a ++ b) 1 = b := by
  have : (a.length + b.length) / 2 = a.length := by omega
  simp [halfT, this]
theorem allBits_cons : ∀ k, allBits (k + 1) = (allBits k).map (fun b => 0 :: b) ++ (allBits k).map (fun b => 1 :: b)
  | 0 => rfl
  | k + 1 => by
    have ih := allBits_cons k
    have e : ∀ (z : Int) (L : List (List Int)), (L.map fun b => z :: b).flatMap (fun b => [b ++ [0], b ++ [1]]) = (L.flatMap fun b => [b ++ [0], b ++ [1]]).map fun b => z :: b := by
      intro z L
      induction L with
      | nil => rfl
      | cons x L ih => simp only [List.map_cons, List.flatMap_cons, ih, List.map_append]; rfl
    show (allBits (k + 1)).flatMap _ = _
    conv => lhs; rw [ih]
    rw [List.flatMap_append, e, e]
    rfl
theorem sum_lin (x : Int) : ∀ (L : List (List Int)) (f g : List Int → Int), (L.map fun b => (1 - x) * f b + x * g b).sum = (1 - x) * (L.map f).sum + x * (L.map g).sum
  | [], f, g => by simp
  | b :: L, f, g => by
    have := sum_lin x L f g
    simp only [List.map_cons, List.sum_cons, this]; grind
theorem sum_E : ∀ (k : Nat) (t : List Int), t.length = 2 ^ k → ((allBits k).map fun b => K03.E t b).sum = t.sum
  | 0, t, h => by
    match t, h with
    | [a], _ => simp [allBits, K03.E]
  | k + 1, t, h => by
    rw [Nat.pow_succ] at h
    have a1 := sum_E k (t.take (2 ^ k)) (by rw [List.length_take]; omega)
    have a2 := sum_E k (t.drop (2 ^ k)) (by rw [List.length_drop]; omega)
    rw [allBits_cons, List.map_append, List.sum_append, List.map_map, List.map_map]
    have c1 : (allBits k).map ((fun b => K03.E t b) ∘ fun b => 0 :: b) = (allBits k).map fun b => K03.E (t.take (2 ^ k)) b := by
      apply List.map_congr_left
      intro b hb
      simp [K03.E, (allBits_mem k b hb).1]
    have c2 : (allBits k).map ((fun b => K03.E t b) ∘ fun b => 1 :: b) = (allBits k).map fun b => K03.E (t.drop (2 ^ k)) b := by
      apply List.map_congr_left
      intro b hb
      simp [K03.E, (allBits_mem k b hb).1]
    rw [c1, c2, a1, a2]
    conv => rhs; rw [← List.take_append_drop (2 ^ k) t]
    rw [List.sum_append]
theorem fold_take (p : Int) (t : List Int) (m w1 w2 : Nat) : (foldT p t m (w1 + w2)).take w1 = foldT p (t.take (w1 * m)) m w1 ∧ (foldT p t m (w1 + w2)).drop w1 = foldT p (t.drop (w1 * m)) m w2 := by
  unfold foldT
  constructor
  · rw [← List.map_take, List.take_range, Nat.min_eq_left (by omega)]
    apply List.map_congr_left
    intro i hi
    have hi' := List.mem_range.mp hi
    have : i * m + m ≤ w1 * m := by have := Nat.mul_le_mul_right m hi'; rw [Nat.succ_mul] at this; exact this
    rw [List.drop_take, List.take_take, Nat.min_eq_left (by omega)]
  · apply List.ext_getElem?
    intro j
    simp only [List.getElem?_drop, List.getElem?_map]
    by_cases hj : j < w2
    · rw [List.getElem?_range (by omega), List.getElem?_range hj]
      simp only [Option.map_some, List.drop_drop]
      rw [Nat.add_mul]
    · rw [List.getElem?_eq_none (by simp; omega), List.getElem?_eq_none (by simp; omega)]; rfl
theorem E_fold (p : Int) (k : Nat) : ∀ (xs t : List Int), t.length = 2 ^ xs.length * 2 ^ k → K03.Eqp p (K03.E (foldT p t (2 ^ k) (2 ^ xs.length)) xs) ((allBits k).map fun b => K03.E t (xs ++ b)).sum
  | [], t, h => by
    have := sum_E k t (by simpa using h)
    simp only [List.nil_append]
    rw [this]
    have : K03.E (foldT p t (2 ^ k) (2 ^ ([] : List Int).length)) [] = t.sum % p := by
      simp [foldT, K03.E]
      rw [List.take_of_length_le (by simp at h; omega)]
    rw [this]
    exact K03.Eqp.md p _
  | x :: xs, t, h => by
    simp only [List.length_cons, Nat.pow_succ] at h ⊢
    have h' : t.length = 2 ^ xs.length * 2 ^ k + 2 ^ xs.length * 2 ^ k := by rw [h, Nat.mul_assoc, Nat.mul_comm 2, ← Nat.mul_assoc, Nat.mul_two]
    have a1 := E_fold p k xs (t.take (2 ^ xs.length * 2 ^ k)) (by rw [List.length_take]; omega)
    have a2 := E_fold p k xs (t.drop (2 ^ xs.length * 2 ^ k)) (by rw [List.length_drop]; omega)
    have f := fold_take p t (2 ^ k) (2 ^ xs.length) (2 ^ xs.length)
    have two : 2 ^ xs.length * 2 = 2 ^ xs.length + 2 ^ xs.length := Nat.mul_two _
    simp only [K03.E]
    rw [two, f.1, f.2]
    refine (((K03.Eqp.refl p (1 - x)).mul a1).add ((K03.Eqp.refl p x).mul a2)).trans (.rfl' ?_)
    rw [← sum_lin]
    congr 1
    apply List.map_congr_left
    intro b hb
    simp only [List.cons_append, K03.E, List.length_append, (allBits_mem k b hb).1, Nat.pow_add]
theorem perm1 {ms : List Int} (h : ms.Perm [0]) : ms = [0] := List.perm_singleton.mp h
theorem perm2 {ms : List Int} (h : ms.Perm [0, 1]) : ms = [0, 1] ∨ ms = [1, 0] := by
  have l := h.length_eq
  have nd := h.nodup_iff.mpr (by decide)
  match ms, l, nd, h with
  | [a, b], _, nd, h =>
    have ha := h.mem_iff.mp (show a ∈ [a, b] by simp)
    have hb := h.mem_iff.mp (show b ∈ [a, b] by simp)
    simp at ha hb nd
    rcases ha with rfl | rfl <;> rcases hb with rfl | rfl <;> simp_all
theorem perm3 {ms : List Int} (h : ms.Perm [0, 1, 2]) : ms = [0, 1, 2] ∨ ms = [0, 2, 1] ∨ ms = [1, 0, 2] ∨ ms = [1, 2, 0] ∨ ms = [2, 0, 1] ∨ ms = [2, 1, 0] := by
  have l := h.length_eq
  have nd := h.nodup_iff.mpr (by decide)
  match ms, l, nd, h with
  | [a, b, c], _, nd, h =>
    have ha := h.mem_iff.mp (show a ∈ [a, b, c] by simp)
    have hb := h.mem_iff.mp (show b ∈ [a, b, c] by simp)
    have hc := h.mem_iff.mp (show c ∈ [a, b, c] by simp)
    simp at ha hb hc nd
    rcases ha with rfl | rfl | rfl <;> rcases hb with rfl | rfl | rfl <;> rcases hc with rfl | rfl | rfl <;> simp_all
/-- the orders of one, two or three places -/
def Orders : List (List Nat) := [[0], [0, 1], [1, 0], [0, 1, 2], [0, 2, 1], [1, 0, 2], [1, 2, 0], [2, 0, 1], [2, 1, 0]]
theorem order_of {ms : List Int} {n : Nat} (h1 : 1 ≤ n) (h3 : n ≤ 3) (h : ms.Perm ((List.range n).map fun i : Nat => (i : Int))) : ∃ order ∈ Orders, order.length = n ∧ ms = order.map fun k : Nat => (k : Int) := by
  have : n = 1 ∨ n = 2 ∨ n = 3 := by omega
  rcases this with rfl | rfl | rfl
  · exact ⟨[0], by decide, rfl, perm1 h⟩
  · rcases perm2 h with rfl | rfl
    · exact ⟨[0, 1], by decide, rfl, rfl⟩
    · exact ⟨[1, 0], by decide, rfl, rfl⟩
  · rcases perm3 h with rfl | rfl | rfl | rfl | rfl | rfl
    · exact ⟨[0, 1, 2], by decide, rfl, rfl⟩
    · exact ⟨[0, 2, 1], by decide, rfl, rfl⟩
    · exact ⟨[1, 0, 2], by decide, rfl, rfl⟩
    · exact ⟨[1, 2, 0], by decide, rfl, rfl⟩
    · exact ⟨[2, 0, 1], by decide, rfl, rfl⟩
    · exact ⟨[2, 1, 0], by decide, rfl, rfl⟩
theorem ord_ok : ∀ order ∈ Orders, Ord order ∧ 1 ≤ order.length ∧ order.length ≤ 3 := by unfold Ord; decide
theorem E_turn {t xs : List Int} : ∀ order ∈ Orders, t.length = 2 ^ order.length → xs.length = order.length → K03.E (turnT t order) xs = K03.E t (tpT xs order) := by
  intro order ho ht hx
  simp only [Orders, List.mem_cons, List.not_mem_nil, or_false] at ho
  rcases ho with rfl | rfl | rfl | rfl | rfl | rfl | rfl | rfl | rfl
  · match t, xs, ht, hx with
    | [a, b], [x], _, _ => simp [turnT, tpT, mi, K03.E, List.range_succ]
  iterate 2
    · match t, xs, ht, hx with
      | [a, b, c, d], [x, y], _, _ => simp [turnT, tpT, mi, K03.E, List.range_succ] <;> grind
  iterate 6
    · match t, xs, ht, hx with
      | [a, b, c, d, e, f, g, h], [x, y, z], _, _ => simp [turnT, tpT, mi, K03.E, List.range_succ] <;> grind
theorem fold_len (p : Int) (t : List Int) (m w : Nat) : (foldT p t m w).length = w := by simp [foldT]
theorem spread_len (t : List Int) (m : Nat) : (spreadT t m).length = t.length * m := by
  simp only [spreadT, List.length_flatMap, List.length_replicate, List.map_const', List.sum_replicate_nat]
theorem half_len (t : List Int) (b : Int) : (halfT t b).length ≤ t.length := by unfold halfT; split <;> simp <;> omega
theorem turn_len (t : List Int) (order : List Nat) : (turnT t order).length = t.length := by simp [turnT]
theorem mul_len (p : Int) (a b : List Int) (m r w : Nat) : (mulT p a b m r w).length = r * w := by simp [mulT, List.map_const', List.sum_replicate_nat]
theorem pick_len (p : Int) : ∀ c a b : List Int, (pickT p c a b).length ≤ c.length
  | [], _, _ => by simp [pickT]
  | _ :: _, [], _ => by simp [pickT]
  | _ :: _, _ :: _, [] => by simp [pickT]
  | c :: cs, a :: as, b :: bs => by have := pick_len p cs as bs; simp [pickT]; exact this
theorem op_len (p : Int) (w : String) (a b : List Int) : (opT p w a b).length ≤ a.length := by simp [opT]; omega
theorem sum_eqp (p : Int) : ∀ (L : List (List Int)) (f g : List Int → Int), (∀ b ∈ L, K03.Eqp p (f b) (g b)) → K03.Eqp p (L.map f).sum (L.map g).sum
  | [], f, g, _ => .refl _ _
  | b :: L, f, g, h => by
    simp only [List.map_cons, List.sum_cons]
    exact (h b List.mem_cons_self).add (sum_eqp p L f g fun c hc => h c (List.mem_cons_of_mem _ hc))
theorem alks_tups (h : DH) : ∀ rs : List (List Int), Alks h (rs.map fun r => .tup (IL r)) (rs.map fun r => .tup (IL r)) ((rs.map fun r => r.length + 1).sum)
  | [] => .nil
  | r :: rs => .cons (.tup (.ints h r)) (alks_tups h rs)
theorem lc_parts {ti : DTI} {g : DTG} {te : DTE} {vs : List Nat} {σ : DS} {h h1 : DH} {Q : List D → DH → Prop} {stay : DH → Prop} {p : Int} {n : Nat} {ta tb tc : List Int} (fr : List (List D × List Int)) (hfr : ∀ x ∈ fr, FormT p n ta tb tc x.1 x.2) (hi : ∀ R : List D → (DH → Prop) → DH → Prop, R (fr.map fun x => .tup x.1) stay h1 → ti σ h R) (hst : stay h1) (hz : fr.length ≤ 100)
    (turn : ∀ (form : List D) (res : List Int) (Q : DK), FormT p n ta tb tc form res → Q (.tup (IL res)) h1 → g (.tup form) (dwipe σ vs) h1 fun σ2 h2 => te σ2 h2 Q) (done : Q ((fr.map (·.2)).map fun r => .tup (IL r)) h1) : dLc ti g dYes te vs σ h Q := by
  refine lc_map (its := fr.map fun x => .tup x.1) (h1 := h1) (stay := stay) (fun i _ => .tup (IL ((fr.map (·.2)).getD i []))) hi hst (le_size (by simp; omega)) ?_ ?_
  · intro i d Q hd q
    simp only [List.getElem?_map, Option.map_eq_some_iff] at hd
    obtain ⟨x, hx, rfl⟩ := hd
    have e : (fr.map (·.2)).getD i [] = x.2 := by simp [List.getD, hx]
    rw [e] at q
    exact turn _ _ Q (hfr x (List.mem_of_getElem? hx)) q
  · have e : ((fr.map fun x => D.tup x.1).mapIdx fun i _ => D.tup (IL ((fr.map (·.2)).getD i []))) = (fr.map (·.2)).map fun r => .tup (IL r) := by
      apply List.ext_getElem?
      intro j
      cases hj : fr[j]? with
      | none => simp [hj]
      | some x => simp [hj, List.getD]
    rw [e]; exact done
abbrev TL (rs : List (List Int)) : List D := rs.map fun r => D.tup (IL r)
def rootsL (p : Int) (vs : List Int) : List Int := ((List.range p.toNat).filter fun i : Nat => Pl.lag p vs (i : Int) % p == 0).map fun i : Nat => (i : Int)
def difL (p : Int) (a b : List Int) : List Int := List.zipWith (fun x y => (x - y) % p) a b
def unl (p : Int) (n : Nat) (a b : List Int) : Nat := (Pl.allP p.toNat n).countP fun s => !(K03.dot a (K03.W p 1 s) % p == K03.dot b (K03.W p 1 s) % p)
theorem lc_pairsG {ti : DTI} {te : DTE} {vs : List Nat} {σ : DS} {h : DH} {Q : List D → DH → Prop} (Good : DH → (DH → Prop) → Prop) {a b : List Int} {g : DTG} (f : Int → Int → Int) (hi : ∀ R : List D → (DH → Prop) → DH → Prop, (∀ h1 stay, Good h1 stay → R (zipD (IL a) (IL b)) stay h1) → ti σ h R) (hst : ∀ h1 stay, Good h1 stay → stay h1) (hz : a.length ≤ 65536)
    (turn : ∀ h1 stay, Good h1 stay → ∀ (x y : Int) (Q : DK), x ∈ a → y ∈ b → Q (.int (f x y)) h1 → g (.tup [.int x, .int y]) (dwipe σ vs) h1 fun σ2 h2 => te σ2 h2 Q) (done : ∀ h1 stay, Good h1 stay → Q (IL (List.zipWith f a b)) h1) : dLc ti g dYes te vs σ h Q :=
  hi _ fun h1 stay gd => lc_pairs (ti := fun _ _ R => R (zipD (IL a) (IL b)) stay h1) (g := g) (te := te) (vs := vs) (σ := σ) (h := h) f (fun R r => r) (hst h1 stay gd) hz (turn h1 stay gd) (done h1 stay gd)
theorem cur_fold (p x : Int) : ∀ cs : List Int, K03.Eqp p (cs.foldr (fun c f => (f * x + c) % p) 0) (Pl.ev cs x)
  | [] => .refl _ _
  | c :: cs => (K03.Eqp.md p _).trans ((((cur_fold p x cs).mul (.refl p x)).add (.refl p c)).trans (.rfl' (by simp [Pl.ev]; grind)))
/-- the line: the product of the tables' values along one bit -/
def li (p : Int) (tabs : List (List Int)) (ys zs : List Int) (x : Int) : Int := tabs.foldl (fun f t => f * (K03.dot t (K03.W p 1 (ys ++ x :: zs)) % p) % p) 1
theorem evE {p : Int} (t xs : List Int) (hl : t.length = 2 ^ xs.length) : K03.Eqp p (K03.dot t (K03.W p 1 xs)) (K03.E t xs) := by
  have := K03.dot_W p xs t 1 hl
  rwa [Int.one_mul] at this
theorem ext_pol {p : Int} (t ys zs : List Int) (hl : t.length = 2 ^ (ys.length + zs.length + 1)) : Pl.Pol p 1 fun x => K03.dot t (K03.W p 1 (ys ++ x :: zs)) % p := by
  refine (Pl.Pol.lin p (K03.E t (ys ++ 0 :: zs)) (K03.E t (ys ++ 1 :: zs) - K03.E t (ys ++ 0 :: zs))).congr fun x => ?_
  refine (K03.Eqp.md p _).trans ((evE t _ (by rw [hl, List.length_append, List.length_cons]; congr 1)).trans (.rfl' ?_))
  rw [K03.E_aff]; grind
theorem li_pol {p : Int} (tabs : List (List Int)) (ys zs : List Int) (hl : ∀ t ∈ tabs, t.length = 2 ^ (ys.length + zs.length + 1)) : Pl.Pol p tabs.length (li p tabs ys zs) := by
  have : ∀ (tabs : List (List Int)) (d : Nat) (g : Int → Int), (∀ t ∈ tabs, t.length = 2 ^ (ys.length + zs.length + 1)) → Pl.Pol p d g → Pl.Pol p (d + tabs.length) fun x => tabs.foldl (fun f t => f * (K03.dot t (K03.W p 1 (ys ++ x :: zs)) % p) % p) (g x) := by
    intro tabs
    induction tabs with
    | nil => intro d g _ h; exact h
    | cons t tabs ih =>
      intro d g hl h
      have h1 : Pl.Pol p (d + 1) fun x => g x * (K03.dot t (K03.W p 1 (ys ++ x :: zs)) % p) % p := (h.mul (ext_pol t ys zs (hl t List.mem_cons_self))).congr fun x => K03.Eqp.md p _
      have := ih (d + 1) _ (fun u hu => hl u (List.mem_cons_of_mem _ hu)) h1
      exact this.le (by simp; omega)
  have := this tabs 0 (fun _ => 1) hl (Pl.Pol.const p 1)
  rw [Nat.zero_add] at this
  exact this
theorem li_rng {p : Int} (hp : 1 < p) (tabs : List (List Int)) (ys zs : List Int) (x : Int) : 0 ≤ li p tabs ys zs x ∧ li p tabs ys zs x < p := by
  unfold li
  have : ∀ (tabs : List (List Int)) (f : Int), 0 ≤ f ∧ f < p → 0 ≤ tabs.foldl (fun f t => f * (K03.dot t (K03.W p 1 (ys ++ x :: zs)) % p) % p) f ∧ tabs.foldl (fun f t => f * (K03.dot t (K03.W p 1 (ys ++ x :: zs)) % p) % p) f < p := by
    intro tabs
    induction tabs with
    | nil => intro f h; exact h
    | cons t tabs ih => intro f h; exact ih _ (mod_rng (by omega) _)
  exact this tabs 1 ⟨by decide, hp⟩
def valsL (p : Int) (tabs : List (List Int)) (ys zs : List Int) : List Int := (List.range (tabs.length + 1)).map fun i : Nat => li p tabs ys zs (i : Int)
theorem vals_len (p : Int) (tabs : List (List Int)) (ys zs : List Int) : (valsL p tabs ys zs).length = tabs.length + 1 := by simp [valsL]
theorem vals_rng {p : Int} (hp : 1 < p) (tabs : List (List Int)) (ys zs : List Int) : Rng p (valsL p tabs ys zs) := by
  intro y hy
  simp only [valsL, List.mem_map] at hy
  obtain ⟨i, _, rfl⟩ := hy
  exact li_rng hp _ _ _ _
/-- what is interpolated is the line -/
theorem lag_li {p : Int} (hp : Pl.Prm p) (tabs : List (List Int)) (ys zs : List Int) (hl : ∀ t ∈ tabs, t.length = 2 ^ (ys.length + zs.length + 1)) (hd : (tabs.length : Int) < p) (x : Int) : Pl.lag p (valsL p tabs ys zs) x % p = li p tabs ys zs x := by
  have r := li_rng hp.1 tabs ys zs x
  refine (Pl.lag_eq hp (li_pol tabs ys zs hl) hd _ (vals_len _ _ _ _) (fun k hk => .rfl' ?_) x).symm.lift r.1 r.2
  simp [valsL, show k < tabs.length + 1 by omega]
theorem difL_get {p : Int} {a b : List Int} {k : Nat} (ka : k < a.length) (kb : k < b.length) : (difL p a b)[k]? = some ((a[k] - b[k]) % p) := by
  unfold difL
  rw [List.getElem?_eq_getElem (by simp; omega)]; simp
theorem lag_dif (p x : Int) (a b : List Int) (h : a.length = b.length) : K03.Eqp p (Pl.lag p (difL p a b) x) (Pl.lag p a x - Pl.lag p b x) := by
  unfold Pl.lag
  have l : (difL p a b).length = a.length := by simp [difL]; omega
  rw [l, ← h]
  have : ∀ L : List Nat, (∀ k ∈ L, k < a.length) → K03.Eqp p ((L.map fun k => Pl.lagT p a.length k ((difL p a b).getD k 0) x).sum) ((L.map fun k => Pl.lagT p a.length k (a.getD k 0) x).sum - (L.map fun k => Pl.lagT p a.length k (b.getD k 0) x).sum) := by
    intro L
    induction L with
    | nil => intro _; exact .rfl' (by simp)
    | cons k L ih =>
      intro hk
      have h1 := ih fun j hj => hk j (List.mem_cons_of_mem _ hj)
      have ka := hk k List.mem_cons_self
      have kb : k < b.length := by omega
      have e : (difL p a b).getD k 0 = (a.getD k 0 - b.getD k 0) % p := by
        rw [List.getD_eq_getElem?_getD, difL_get ka kb]; simp [ka, kb]
      simp only [List.map_cons, List.sum_cons]
      rw [e]
      have h2 : K03.Eqp p (Pl.lagT p a.length k ((a.getD k 0 - b.getD k 0) % p) x) (Pl.lagT p a.length k (a.getD k 0) x - Pl.lagT p a.length k (b.getD k 0) x) := by
        unfold Pl.lagT
        exact ((((K03.Eqp.md p _).mul (.refl p _)).mul (.refl p _))).trans (.rfl' (by grind))
      exact (h2.add h1).trans (.rfl' (by omega))
  exact this _ fun k hk => List.mem_range.mp hk
/-- the same where two curves agree -/
theorem roots_dif {p : Int} (a b : List Int) (h : a.length = b.length) (i : Nat) : (Pl.lag p (difL p a b) (i : Int) % p == 0) = (Pl.lag p b (i : Int) % p == Pl.lag p a (i : Int) % p) := by
  have e := lag_dif p (i : Int) a b h
  rw [e.mod]
  rw [Bool.eq_iff_iff]
  simp only [beq_iff_eq]
  constructor
  · intro z
    have : K03.Eqp p (Pl.lag p a i - Pl.lag p b i) 0 := .of_mod (by rw [z]; simp)
    obtain ⟨k, e⟩ := this
    exact K03.Eqp.mod ⟨-k, by grind⟩
  · intro z
    obtain ⟨k, e⟩ := K03.Eqp.of_mod z
    have : K03.Eqp p (Pl.lag p a i - Pl.lag p b i) 0 := ⟨-k, by grind⟩
    rw [this.mod]; simp
theorem roots_few {p : Int} (hp : Pl.Prm p) (d : Nat) (a b : List Int) (ha : a.length = d + 1) (hb : b.length = d + 1) (hd : (d : Int) + 1 ≤ p) (ra : Rng p a) (rb : Rng p b) (ne : b ≠ a) : (rootsL p (difL p a b)).length ≤ d := by
  apply Decidable.byContradiction
  intro hn
  have hl : (difL p a b).length = d + 1 := by simp [difL]; omega
  obtain ⟨cs, l, q⟩ := Pl.lag_pol p (difL p a b)
  rw [hl] at l
  have z : ∀ x, K03.Eqp p (Pl.ev cs x) 0 := by
    refine Pl.ev_zero hp (rootsL p (difL p a b)) cs ?_ ?_ (by omega)
    · unfold rootsL
      rw [List.pairwise_map]
      refine List.Pairwise.imp_of_mem (R := fun a b => a ≠ b) ?_ ((List.nodup_range (n := p.toNat)).filter _)
      intro i j hi hj hij
      have := List.mem_range.mp (List.mem_filter.mp hi).1
      have := List.mem_range.mp (List.mem_filter.mp hj).1
      exact Pl.small_ne (by omega) (by omega) (by omega)
    · intro r hr
      simp only [rootsL, List.mem_map, List.mem_filter, beq_iff_eq] at hr
      obtain ⟨i, ⟨_, hz⟩, rfl⟩ := hr
      exact (q _).symm.trans (.of_mod (by rw [hz]; simp))
  apply ne
  apply List.ext_getElem?
  intro k
  by_cases hk : k < d + 1
  · have e := Pl.lag_at hp (difL p a b) (by rw [hl]; omega) k (by omega)
    have e2 := e.symm.trans ((q _).trans (z _))
    have ka : k < a.length := by omega
    have kb : k < b.length := by omega
    have e3 : (difL p a b).getD k 0 = (a[k] - b[k]) % p := by
      rw [List.getD_eq_getElem?_getD, difL_get ka kb]; rfl
    rw [e3] at e2
    have e4 := (K03.Eqp.md p _).symm.trans e2
    have g1 := ra.get (List.getElem?_eq_getElem ka)
    have g2 := rb.get (List.getElem?_eq_getElem kb)
    have : a[k] = b[k] := by
      apply Decidable.byContradiction
      intro hne
      exact Pl.small_ne (p := p) (a := a[k] - b[k]) (by omega) (by omega) (by omega) e4
    simp [ka, kb, this]
  · rw [List.getElem?_eq_none (by omega), List.getElem?_eq_none (by omega)]
theorem E_sub : ∀ (xs a b : List Int), a.length = 2 ^ xs.length → b.length = 2 ^ xs.length → K03.E (List.zipWith (fun x y => x - y) a b) xs = K03.E a xs - K03.E b xs
  | [], a, b, h1, h2 => by
    match a, b, h1, h2 with
    | [x], [y], _, _ => simp [K03.E]
  | z :: xs, a, b, h1, h2 => by
    simp only [List.length_cons, Nat.pow_succ] at h1 h2
    have i1 := E_sub xs (a.take (2 ^ xs.length)) (b.take (2 ^ xs.length)) (by rw [List.length_take]; omega) (by rw [List.length_take]; omega)
    have i2 := E_sub xs (a.drop (2 ^ xs.length)) (b.drop (2 ^ xs.length)) (by rw [List.length_drop]; omega) (by rw [List.length_drop]; omega)
    rw [← List.take_zipWith] at i1
    rw [← List.drop_zipWith] at i2
    simp only [K03.E, i1, i2]; grind
theorem unl_many {p : Int} (hp : Pl.Prm p) (n : Nat) (a b : List Int) (la : a.length = 2 ^ n) (lb : b.length = 2 ^ n) (ra : Rng p a) (rb : Rng p b) (ne : a ≠ b) : (p - 1) ^ n ≤ (unl p n a b : Nat) := by
  have h1 := hp.1
  obtain ⟨q, rfl⟩ : ∃ q : Nat, p = q := ⟨p.toNat, by omega⟩
  have key := Pl.nz_many hp n (List.zipWith (fun x y => x - y) a b) (by simp; omega) ?_
  · have e : unl (q : Int) n a b = (Pl.allP q n).countP (Pl.nz q (List.zipWith (fun x y => x - y) a b)) := by
      unfold unl
      rw [Int.toNat_natCast]
      apply List.countP_congr
      intro s hs
      obtain ⟨sl, sr⟩ := Pl.allP_mem q n s hs
      have e1 := evE (p := q) a s (by rw [la, sl])
      have e2 := evE (p := q) b s (by rw [lb, sl])
      simp only [Pl.nz, Bool.not_eq_true', beq_eq_false_iff_ne, ne_eq, e1.mod, e2.mod, E_sub s a b (by rw [la, sl]) (by rw [lb, sl])]
      constructor
      · intro g z
        obtain ⟨k, e⟩ : K03.Eqp q (K03.E a s - K03.E b s) 0 := .of_mod (by rw [z]; simp)
        exact g (K03.Eqp.mod ⟨k, by grind⟩)
      · intro g z
        obtain ⟨k, e⟩ := K03.Eqp.of_mod z
        exact g ((K03.Eqp.mod (⟨k, by grind⟩ : K03.Eqp q (K03.E a s - K03.E b s) 0)).trans (by simp))
    rw [e]
    have : ((q : Int) - 1) ^ n = (((q - 1) ^ n : Nat) : Int) := by
      rw [Int.natCast_pow]; congr 1; omega
    rw [this]; exact_mod_cast key
  · intro z
    apply ne
    apply List.ext_getElem?
    intro k
    by_cases hk : k < 2 ^ n
    · have ka : k < a.length := by omega
      have kb : k < b.length := by omega
      have e := z (a[k] - b[k]) (List.mem_of_getElem? (i := k) (by rw [List.getElem?_eq_getElem (by simp; omega)]; simp))
      have g1 := ra.get (List.getElem?_eq_getElem ka)
      have g2 := rb.get (List.getElem?_eq_getElem kb)
      have : a[k] = b[k] := by
        apply Decidable.byContradiction
        intro hne
        exact Pl.small_ne (p := q) (a := a[k] - b[k]) (by omega) (by omega) (by omega) e
      simp [ka, kb, this]
    · rw [List.getElem?_eq_none (by omega), List.getElem?_eq_none (by omega)]
theorem for_dep {ti : DTI} {g : DTG} {tb : DTS} {Dn : DEnds} {σ : DS} {h : DH} (Good : List D → DH → (DH → Prop) → Prop) (hi : ∀ R : List D → (DH → Prop) → DH → Prop, (∀ its h1 stay, Good its h1 stay → R its stay h1) → ti σ h R)
    (go : ∀ its h1 stay, Good its h1 stay → dFor (fun _ _ R => R its stay h1) g tb Dn σ h) : dFor ti g tb Dn σ h := hi _ go
/-- all but b stands -/
def Off (b : Addr) (h h' : DH) : Prop := ∀ a, a ≠ b → h' a = h a
theorem Off.refl (b : Addr) (h : DH) : Off b h h := fun _ _ => rfl
theorem Off.upd (b : Addr) (h : DH) (o : DO) : Off b h (updD h b o) := fun _ ne => updD_ne ne
theorem Off.trans {b : Addr} {h h1 h2 : DH} (x : Off b h h1) (y : Off b h1 h2) : Off b h h2 := fun a ne => (y a ne).trans (x a ne)
theorem lc_takesG {ti : DTI} {g : DTG} {te : DTE} {vs : List Nat} {σ : DS} {h h1 : DH} {Q : List D → DH → Prop} {its : List D} {stay : DH → Prop} {p : Int} {b c : Addr} (hm : its.length ≤ 1000000) (hi : ∀ R : List D → (DH → Prop) → DH → Prop, R its stay h1 → ti σ h R) (hst : ∀ h', Off b h1 h' → stay h') (hb : BagC h1 b c)
    (turn : ∀ (d : D) (h : DH) (Q : DK), d ∈ its → BagC h b c → (∀ v h', 0 ≤ v → v < p → BagC h' b c → Off b h h' → Q (.int v) h') → g d (dwipe σ vs) h fun σ2 h2 => te σ2 h2 Q) (done : ∀ ts h', ts.length = its.length → Rng p ts → BagC h' b c → Off b h1 h' → Q (IL ts) h') : dLc ti g dYes te vs σ h Q := by
  refine lc_mk hi (fun i acc h' => BagC h' b c ∧ Off b h1 h' ∧ i ≤ its.length ∧ ∃ ts, acc = IL ts ∧ ts.length = i ∧ Rng p ts) ⟨hb, .refl _ _, by omega, [], rfl, rfl, by intro x hx; simp at hx⟩ (fun _ _ _ q => hst _ q.2.1) ?_ ?_
  · rintro i d acc h hd ⟨hb, ho, him, ts, rfl, hl, hr⟩
    have hi : i < its.length := (List.getElem?_eq_some_iff.mp hd).1
    refine turn d h _ (List.mem_of_getElem? hd) hb fun v h' v0 v1 hb' ho' => ⟨lt_size (by simp; omega), hb', ho.trans ho', by omega, ts ++ [v], by simp, by simp [hl], ?_⟩
    intro x hx
    simp only [List.mem_append, List.mem_singleton] at hx
    rcases hx with hx | rfl
    · exact hr x hx
    · exact ⟨v0, v1⟩
  · rintro acc h ⟨hb, ho, him, ts, rfl, hl, hr⟩
    exact done ts h hl hr hb ho
theorem rng_mem {n : Nat} {d : D} (h : d ∈ rngD 0 n) : ∃ i : Nat, i < n ∧ d = .int (i : Nat) := by
  obtain ⟨i, hi, e⟩ := List.getElem_of_mem h
  have := rng_some (i := i) (by rw [List.getElem?_eq_getElem hi, e])
  exact ⟨i, this.1, by simpa using this.2⟩
theorem skip_last {cs : List Int} {h : DH} {B R : DH → Prop} (hl : cs = [] ∨ ∃ a y, cs = a ++ [y] ∧ y ≠ 0) (r : R h) : (if (!decide (cs = [])) = true then rIx (.tup (IL cs)) (.int (-1)) h fun x h1 => rEqU x (.int 0) h1 fun x h1 => match x with
    | .bl b => if b = true then B h1 else R h1
    | _ => False else R h) := by
  rcases hl with e | ⟨a, y, e, hy⟩
  · rw [if_neg (by simp [e])]; exact r
  · rw [if_pos (by simp [e])]
    rw [e, show IL (a ++ [y]) = IL a ++ [D.int y] by simp]
    refine ix_last_tup ?_
    rw [rEqU_int]
    simp only [beq_iff_eq, hy, ↓reduceIte]
    exact r
theorem skip_lt {cb : Bool} {m : Int} {T : Addr} {ds : List D} {h : DH} {B R : DH → Prop} (hT : h T = some (.lst ds)) (hc : cb = true → m ≤ ds.length) (r : R h) : (if cb = true then rLen [.ref T] h fun y h2 => rIB (fun i j => decide (j < i)) (.int m) y h2 fun x h1 => match x with
    | .bl b => if b = true then B h1 else R h1
    | _ => False else R h) := by
  cases cb with
  | false => exact r
  | true =>
    rw [if_pos rfl]
    refine len_ref hT ?_
    rw [rIB_int]
    have := hc rfl
    simp only [show ¬ ((ds.length : Int) < m) by omega, decide_false, Bool.false_eq_true, ↓reduceIte]
    exact r
theorem skip_nl {cb : Bool} {x y : Int} {B R : Prop} (hc : cb = true → ¬ x < y) (r : R) : (if cb = true then (if decide (x < y) = true then B else R) else R) := by
  cases cb with
  | false => exact r
  | true =>
    rw [if_pos rfl, if_neg (by simpa using hc rfl)]
    exact r
/-- first bits fixed, one behind another -/
def ffx (p : Int) (t : List Int) (xs : List Int) : List Int := xs.foldl (fun t x => K03.fx p x (t.take (t.length / 2)) (t.drop (t.length / 2))) t
/-- last bits fixed -/
def lfx (p : Int) (t : List Int) (ys : List Int) (m : Nat) : List Int := (List.range m).map fun i => K03.dot ((t.drop (i * 2 ^ ys.length)).take (2 ^ ys.length)) (K03.W p 1 ys) % p
def pwr (p x : Int) : Nat → Int
  | 0 => 1
  | c + 1 => pwr p x c * x % p
def pws (p x : Int) (m : Nat) : List Int := (List.range m).map (pwr p x)
/-- the words of summands -/
inductive Wd | one | two | three | choice
def Wd.str : Wd → String
  | .one => "one"
  | .two => "two"
  | .three => "three"
  | .choice => "choice"
def Wd.many : Wd → Nat
  | .one => 1
  | .two => 2
  | .three => 3
  | .choice => 4
def Wd.deg : Wd → Nat
  | .one => 1
  | .two => 2
  | .three => 3
  | .choice => 3
/-- the number of a summand, as told -/
def trm (p : Int) (w : Wd) (v : Nat → Int) : Int := match w with
  | .one => v 0
  | .two => v 0 * v 1 % p
  | .three => v 0 * (v 1 * v 2) % p
  | .choice => v 0 * (v 1 * v 2 + (1 - v 1) * v 3) % p
/-- and as a curve -/
def trE (w : Wd) (v : Nat → Int) : Int := match w with
  | .one => v 0
  | .two => v 0 * v 1
  | .three => v 0 * (v 1 * v 2)
  | .choice => v 0 * (v 1 * v 2 + (1 - v 1) * v 3)
def cl (ts : List (List Int)) (i : Nat) : Nat → Int := fun j => (ts.getD j []).getD i 0
def whl (p : Int) (w : Wd) (ts : List (List Int)) : Int := ((List.range (ts.getD 0 []).length).map fun i => trm p w (cl ts i)).sum % p
theorem trm_E (p : Int) (w : Wd) (v : Nat → Int) : K03.Eqp p (trm p w v) (trE w v) := by
  cases w
  · exact .refl _ _
  all_goals exact K03.Eqp.md _ _
theorem trE_eqp {p : Int} (w : Wd) {u v : Nat → Int} (h : ∀ j < w.many, K03.Eqp p (u j) (v j)) : K03.Eqp p (trE w u) (trE w v) := by
  cases w
  · exact h 0 (by decide)
  · exact (h 0 (by decide)).mul (h 1 (by decide))
  · exact (h 0 (by decide)).mul ((h 1 (by decide)).mul (h 2 (by decide)))
  · have h1 := h 1 (by decide)
    have n1 : K03.Eqp p (1 - u 1) (1 - v 1) := by obtain ⟨k, e⟩ := h1; exact ⟨-k, by grind⟩
    exact (h 0 (by decide)).mul ((h1.mul (h 2 (by decide))).add (n1.mul (h 3 (by decide))))
theorem rsum_eqp {p : Int} {f g : Nat → Int} : ∀ n : Nat, (∀ i < n, K03.Eqp p (f i) (g i)) → K03.Eqp p ((List.range n).map f).sum ((List.range n).map g).sum
  | 0, _ => .refl _ _
  | n + 1, h => by
    have ih := rsum_eqp n fun i hi => h i (by omega)
    rw [List.range_succ, List.map_append, List.map_append, List.sum_append, List.sum_append]
    exact ih.add (.trans (.rfl' (by simp)) ((h n (by omega)).trans (.rfl' (by simp))))
theorem rsum_congr {f g : Nat → Int} (n : Nat) (h : ∀ i < n, f i = g i) : ((List.range n).map f).sum = ((List.range n).map g).sum := by
  congr 1
  apply List.map_congr_left
  intro i hi
  exact h i (List.mem_range.mp hi)
theorem rsum_add (f g : Nat → Int) : ∀ n : Nat, ((List.range n).map fun i => f i + g i).sum = ((List.range n).map f).sum + ((List.range n).map g).sum
  | 0 => by simp
  | n + 1 => by
    have ih := rsum_add f g n
    simp only [List.range_succ, List.map_append, List.sum_append, List.map_cons, List.map_nil, List.sum_cons, List.sum_nil] at ih ⊢
    omega
theorem rsum_mul (c : Int) (f : Nat → Int) : ∀ n : Nat, ((List.range n).map fun i => c * f i).sum = c * ((List.range n).map f).sum
  | 0 => by simp
  | n + 1 => by
    have ih := rsum_mul c f n
    simp only [List.range_succ, List.map_append, List.sum_append, List.map_cons, List.map_nil, List.sum_cons, List.sum_nil] at ih ⊢
    rw [ih]; grind
theorem rsum_split (f : Nat → Int) (a : Nat) : ∀ b : Nat, ((List.range (a + b)).map f).sum = ((List.range a).map f).sum + ((List.range b).map fun i => f (a + i)).sum
  | 0 => by simp
  | b + 1 => by
    have ih := rsum_split f a b
    have e : a + (b + 1) = a + b + 1 := rfl
    rw [e, List.range_succ]
    simp only [List.range_succ, List.map_append, List.sum_append, List.map_cons, List.map_nil, List.sum_cons, List.sum_nil] at ih ⊢
    omega
theorem rsum_zero : ∀ n : Nat, ((List.range n).map fun _ => (0 : Int)).sum = 0
  | 0 => rfl
  | n + 1 => by
    have := rsum_zero n
    simp only [List.range_succ, List.map_append, List.sum_append, List.map_cons, List.map_nil, List.sum_cons, List.sum_nil] at this ⊢
    omega
theorem rsum_swap (f : Nat → Nat → Int) (m : Nat) : ∀ n : Nat, ((List.range n).map fun i => ((List.range m).map fun j => f i j).sum).sum = ((List.range m).map fun j => ((List.range n).map fun i => f i j).sum).sum
  | 0 => by simp only [List.range_zero, List.map_nil, List.sum_nil]; exact (rsum_zero m).symm
  | n + 1 => by
    have ih := rsum_swap f m n
    have e : ∀ j, ((List.range (n + 1)).map fun i => f i j).sum = ((List.range n).map fun i => f i j).sum + f n j := fun j => by simp [List.range_succ]
    simp only [e]
    rw [rsum_add, ← ih]
    simp [List.range_succ]
theorem dot_rng : ∀ (n : Nat) (t w : List Int), t.length = n → w.length = n → K03.dot t w = ((List.range n).map fun i => t.getD i 0 * w.getD i 0).sum
  | 0, t, w, h1, h2 => by
    obtain rfl := List.length_eq_zero_iff.mp h1
    simp [K03.dot]
  | n + 1, [], _, h1, _ => by simp at h1
  | n + 1, _ :: _, [], _, h2 => by simp at h2
  | n + 1, a :: t, b :: w, h1, h2 => by
    have ih := dot_rng n t w (by simpa using h1) (by simpa using h2)
    have e : K03.dot (a :: t) (b :: w) = a * b + K03.dot t w := by simp [K03.dot]
    rw [e, ih, List.range_succ_eq_map]
    simp [Function.comp_def]
/-- a table with its first bit fixed, number by number -/
theorem fx_get (p x : Int) {t : List Int} {n i : Nat} (hl : t.length = 2 * n) (hi : i < n) : (K03.fx p x (t.take n) (t.drop n)).getD i 0 = ((1 - x) * t.getD i 0 + x * t.getD (n + i) 0) % p := by
  have h1 : (t.take n)[i]? = t[i]? := by rw [List.getElem?_take]; simp [hi]
  have h2 : (t.drop n)[i]? = t[n + i]? := by rw [List.getElem?_drop]
  have a1 : i < t.length := by omega
  have a2 : n + i < t.length := by omega
  simp only [K03.fx, List.getD_eq_getElem?_getD, List.getElem?_zipWith, h1, h2, List.getElem?_eq_getElem a1, List.getElem?_eq_getElem a2, Option.getD_some]
theorem fx_len (p x : Int) {t : List Int} {n : Nat} (hl : t.length = 2 * n) : (K03.fx p x (t.take n) (t.drop n)).length = n := by
  simp [K03.fx]; omega
theorem fx_rng {p : Int} (hp : 0 < p) (x : Int) (a b : List Int) : Rng p (K03.fx p x a b) := by
  intro y hy
  obtain ⟨i, hi, e⟩ := List.getElem_of_mem hy
  simp only [K03.fx, List.getElem_zipWith] at e
  rw [← e]
  exact mod_rng hp _
/-- tables with their first bit fixed -/
def fxs (p x : Int) (n : Nat) (ts : List (List Int)) : List (List Int) := ts.map fun t => K03.fx p x (t.take n) (t.drop n)
/-- tables of one length, as many as the word wants -/
def Tabs (p : Int) (w : Wd) (l : Nat) (ts : List (List Int)) : Prop := ts.length = w.many ∧ ∀ t ∈ ts, t.length = l ∧ Rng p t
theorem Tabs.at {p : Int} {w : Wd} {l : Nat} {ts : List (List Int)} (h : Tabs p w l ts) {j : Nat} (hj : j < w.many) : ∃ t, ts[j]? = some t ∧ ts.getD j [] = t ∧ t.length = l ∧ Rng p t := by
  have hj' : j < ts.length := by rw [h.1]; exact hj
  refine ⟨ts[j], List.getElem?_eq_getElem hj', by simp [hj'], h.2 _ (List.getElem_mem hj')⟩
theorem many_pos (w : Wd) : 0 < w.many := by cases w <;> decide
theorem Tabs.fxs {p : Int} (hp : 0 < p) {w : Wd} {n : Nat} {ts : List (List Int)} (h : Tabs p w (2 * n) ts) (x : Int) : Tabs p w n (fxs p x n ts) := by
  refine ⟨by simp [DL.fxs, h.1], fun t ht => ?_⟩
  obtain ⟨u, hu, rfl⟩ := List.mem_map.mp ht
  exact ⟨fx_len p x (h.2 u hu).1, fx_rng hp _ _ _⟩
theorem cl_fxs {p : Int} {w : Wd} {n : Nat} {ts : List (List Int)} (h : Tabs p w (2 * n) ts) (x : Int) {i j : Nat} (hi : i < n) (hj : j < w.many) : cl (fxs p x n ts) i j = ((1 - x) * cl ts i j + x * cl ts (n + i) j) % p := by
  obtain ⟨t, e, e2, l, _⟩ := h.at hj
  have : (fxs p x n ts).getD j [] = K03.fx p x (t.take n) (t.drop n) := by simp [fxs, e]
  simp only [cl, this, e2]
  exact fx_get p x l hi
theorem whl_E {p : Int} {w : Wd} {l : Nat} {ts : List (List Int)} (h : Tabs p w l ts) : K03.Eqp p (whl p w ts) ((List.range l).map fun i => trE w (cl ts i)).sum := by
  obtain ⟨t, _, e2, hl, _⟩ := h.at (many_pos w)
  unfold whl
  rw [e2, hl]
  exact (K03.Eqp.md p _).trans (rsum_eqp l fun i _ => trm_E p w _)
/-- the round: the line -/
def lin (p : Int) (w : Wd) (n : Nat) (ts : List (List Int)) (x : Int) : Int := whl p w (fxs p x n ts)
theorem lin_E {p : Int} (hp : 0 < p) {w : Wd} {n : Nat} {ts : List (List Int)} (h : Tabs p w (2 * n) ts) (x : Int) : K03.Eqp p (lin p w n ts x) ((List.range n).map fun i => trE w fun j => (1 - x) * cl ts i j + x * cl ts (n + i) j).sum := by
  refine (whl_E (h.fxs hp x)).trans (rsum_eqp n fun i hi => trE_eqp w fun j hj => ?_)
  rw [cl_fxs h x hi hj]
  exact K03.Eqp.md p _
theorem whl_rng {p : Int} (hp : 0 < p) (w : Wd) (ts : List (List Int)) : 0 ≤ whl p w ts ∧ whl p w ts < p := mod_rng hp _
theorem lin_rng {p : Int} (hp : 0 < p) (w : Wd) (n : Nat) (ts : List (List Int)) (x : Int) : 0 ≤ lin p w n ts x ∧ lin p w n ts x < p := mod_rng hp _
theorem lin_two {p : Int} (hp : 0 < p) {w : Wd} {n : Nat} {ts : List (List Int)} (h : Tabs p w (2 * n) ts) : (lin p w n ts 0 + lin p w n ts 1) % p = whl p w ts := by
  have e := whl_E h
  have r := whl_rng hp w ts
  refine K03.Eqp.lift (e.trans ?_) r.1 r.2
  rw [Nat.two_mul, rsum_split]
  refine K03.Eqp.symm (((lin_E hp h 0).add (lin_E hp h 1)).trans (.rfl' ?_))
  congr 1
  · refine rsum_congr n fun i _ => ?_
    cases w <;> simp [trE]
  · refine rsum_congr n fun i _ => ?_
    cases w <;> simp [trE]
theorem lin_pol {p : Int} (hp : 0 < p) {w : Wd} {n : Nat} {ts : List (List Int)} (h : Tabs p w (2 * n) ts) : Pl.Pol p w.deg (lin p w n ts) := by
  refine Pl.Pol.congr ?_ fun x => lin_E hp h x
  refine Pl.Pol.sum (List.range n) (fun i x => trE w fun j => (1 - x) * cl ts i j + x * cl ts (n + i) j) fun i _ => ?_
  have l : ∀ j, Pl.Pol p 1 fun x => (1 - x) * cl ts i j + x * cl ts (n + i) j := fun j =>
    (Pl.Pol.lin p (cl ts i j) (cl ts (n + i) j - cl ts i j)).congr fun x => .rfl' (by grind)
  cases w
  · exact l 0
  · exact (l 0).mul (l 1)
  · exact ((l 0).mul ((l 1).mul (l 2)))
  · have n1 : Pl.Pol p 1 fun x => 1 - ((1 - x) * cl ts i 1 + x * cl ts (n + i) 1) :=
      (((Pl.Pol.const p 1).le (Nat.zero_le 1)).add ((l 1).smul (-1))).congr fun x => .rfl' (by omega)
    exact ((l 0).mul (((l 1).mul (l 2)).add (n1.mul (l 3))))
def valsN (p : Int) (w : Wd) (n : Nat) (ts : List (List Int)) : List Int := (List.range (w.deg + 1)).map fun i : Nat => lin p w n ts (i : Int)
theorem lag_lin {p : Int} (hp : Pl.Prm p) {w : Wd} {n : Nat} {ts : List (List Int)} (h : Tabs p w (2 * n) ts) (hd : (w.deg : Int) < p) (x : Int) : Pl.lag p (valsN p w n ts) x % p = lin p w n ts x := by
  have p0 : 0 < p := by have := hp.1; omega
  have r := lin_rng p0 w n ts x
  refine (Pl.lag_eq hp (lin_pol p0 h) hd _ (by simp [valsN]) (fun k hk => .rfl' ?_) x).symm.lift r.1 r.2
  simp [valsN, show k < w.deg + 1 by omega]
theorem ffx_len (p : Int) : ∀ (xs t : List Int) (k : Nat), t.length = 2 ^ (xs.length + k) → (ffx p t xs).length = 2 ^ k
  | [], t, k, h => by simpa [ffx] using h
  | x :: xs, t, k, h => by
    have e : t.length = 2 * 2 ^ (xs.length + k) := by rw [h, List.length_cons, show xs.length + 1 + k = (xs.length + k) + 1 by omega, Nat.pow_succ]; omega
    have := ffx_len p xs (K03.fx p x (t.take (t.length / 2)) (t.drop (t.length / 2))) k (by
      rw [show t.length / 2 = 2 ^ (xs.length + k) by omega]; exact fx_len p x e)
    simpa [ffx] using this
theorem ffx_rng {p : Int} (hp : 0 < p) : ∀ (xs t : List Int), Rng p t → Rng p (ffx p t xs)
  | [], t, h => by simpa [ffx] using h
  | x :: xs, t, h => by simpa [ffx] using ffx_rng hp xs _ (fx_rng hp x _ _)
theorem ffx_E (p : Int) : ∀ (xs t ys : List Int), t.length = 2 ^ (xs.length + ys.length) → K03.Eqp p (K03.E (ffx p t xs) ys) (K03.E t (xs ++ ys))
  | [], t, ys, h => .refl _ _
  | x :: xs, t, ys, h => by
    have e : t.length = 2 * 2 ^ (xs.length + ys.length) := by rw [h, List.length_cons, show xs.length + 1 + ys.length = (xs.length + ys.length) + 1 by omega, Nat.pow_succ]; omega
    have e2 : t.length / 2 = 2 ^ (xs.length + ys.length) := by omega
    have ih := ffx_E p xs (K03.fx p x (t.take (t.length / 2)) (t.drop (t.length / 2))) ys (by rw [e2]; exact fx_len p x e)
    have e3 : ffx p t (x :: xs) = ffx p (K03.fx p x (t.take (t.length / 2)) (t.drop (t.length / 2))) xs := rfl
    rw [e3]
    refine ih.trans ?_
    have := K03.fx_E p x (xs ++ ys) (t.take (t.length / 2)) (t.drop (t.length / 2)) (by simp; omega) (by simp; omega)
    rw [e2] at this ⊢
    simpa [K03.E] using this
theorem lfx_len (p : Int) (t ys : List Int) (m : Nat) : (lfx p t ys m).length = m := by simp [lfx]
theorem lfx_rng {p : Int} (hp : 0 < p) (t ys : List Int) (m : Nat) : Rng p (lfx p t ys m) := by
  intro y hy
  obtain ⟨i, _, rfl⟩ := List.mem_map.mp hy
  exact mod_rng hp _
theorem E_comb (p : Int) (m : Nat) (c : Nat → Int) : ∀ (ys : List Int) (f : Nat → Nat → Int), K03.Eqp p (K03.E ((List.range (2 ^ ys.length)).map fun l => ((List.range m).map fun j => c j * f j l).sum % p) ys) ((List.range m).map fun j => c j * K03.E ((List.range (2 ^ ys.length)).map (f j)) ys).sum
  | [], f => by simpa [K03.E] using K03.Eqp.md p _
  | y :: ys, f => by
    have a1 := E_comb p m c ys f
    have a2 := E_comb p m c ys fun j l => f j (2 ^ ys.length + l)
    have tk : ∀ {g : Nat → Int} (n : Nat), ((List.range (n * 2)).map g).take n = (List.range n).map g := fun n => by
      rw [← List.map_take, List.take_range, Nat.min_eq_left (by omega)]
    have dr : ∀ {g : Nat → Int} (n : Nat), ((List.range (n * 2)).map g).drop n = (List.range n).map fun i => g (n + i) := fun {g} n => by
      apply List.ext_getElem?
      intro i
      simp only [List.getElem?_drop, List.getElem?_map]
      by_cases h : i < n
      · rw [List.getElem?_range (by omega), List.getElem?_range h]; rfl
      · rw [List.getElem?_eq_none (by simp; omega), List.getElem?_eq_none (by simp; omega)]; rfl
    simp only [List.length_cons, Nat.pow_succ, K03.E]
    rw [tk, dr]
    refine (((K03.Eqp.refl p (1 - y)).mul a1).add ((K03.Eqp.refl p y).mul a2)).trans (.rfl' ?_)
    rw [← rsum_mul, ← rsum_mul, ← rsum_add]
    refine rsum_congr m fun j _ => ?_
    rw [tk, dr]; grind
theorem chunk_rng {t : List Int} {i w : Nat} (h : i * w + w ≤ t.length) : (t.drop (i * w)).take w = (List.range w).map fun l => t.getD (i * w + l) 0 := by
  apply List.ext_getElem?
  intro l
  by_cases hl : l < w
  · rw [List.getElem?_take, if_pos hl, List.getElem?_drop, List.getElem?_map, List.getElem?_range hl]
    simp [show i * w + l < t.length by omega]
  · rw [List.getElem?_eq_none (by simp; omega), List.getElem?_eq_none (by simp; omega)]
/-- a product's extension -/
theorem mul_E (p : Int) (k : Nat) (b ys : List Int) : ∀ (xs a : List Int), a.length = 2 ^ (xs.length + k) → K03.Eqp p (K03.E (mulT p a b (2 ^ k) (2 ^ xs.length) (2 ^ ys.length)) (xs ++ ys))
    ((List.range (2 ^ k)).map fun j => K03.E a (xs ++ K03.lbits j k) * K03.E ((List.range (2 ^ ys.length)).map fun l => b.getD (j * 2 ^ ys.length + l) 0) ys).sum
  | [], a, h => by
    have := E_comb p (2 ^ k) (fun j => a.getD j 0) ys fun j l => b.getD (j * 2 ^ ys.length + l) 0
    have e : mulT p a b (2 ^ k) (2 ^ ([] : List Int).length) (2 ^ ys.length) = (List.range (2 ^ ys.length)).map fun l => ((List.range (2 ^ k)).map fun j => a.getD j 0 * b.getD (j * 2 ^ ys.length + l) 0).sum % p := by
      simp [mulT, List.range_succ]
    rw [e]
    refine this.trans (.rfl' (rsum_congr _ fun j hj => ?_))
    have := K03.E_bits k j a (by simpa using h) hj
    rw [List.nil_append]
    congr 1
    rw [List.getD_eq_getElem?_getD, this]; rfl
  | x :: xs, a, h => by
    have e0 : a.length = 2 ^ (xs.length + k) + 2 ^ (xs.length + k) := by rw [h, List.length_cons, show xs.length + 1 + k = (xs.length + k) + 1 by omega, Nat.pow_succ]; omega
    have a1 := mul_E p k b ys xs (a.take (2 ^ (xs.length + k))) (by simp; omega)
    have a2 := mul_E p k b ys xs (a.drop (2 ^ (xs.length + k))) (by simp; omega)
    have row : ∀ (a : List Int) (r i : Nat), i < r → ((List.range (2 ^ ys.length)).map fun l => ((List.range (2 ^ k)).map fun j => (a.take (r * 2 ^ k)).getD (i * 2 ^ k + j) 0 * b.getD (j * 2 ^ ys.length + l) 0).sum % p) = (List.range (2 ^ ys.length)).map fun l => ((List.range (2 ^ k)).map fun j => a.getD (i * 2 ^ k + j) 0 * b.getD (j * 2 ^ ys.length + l) 0).sum % p := by
      intro a r i hi
      apply List.map_congr_left
      intro l _
      congr 1
      refine rsum_congr _ fun j hj => ?_
      congr 1
      have : i * 2 ^ k + j < r * 2 ^ k := by
        have := Nat.mul_le_mul_right (2 ^ k) hi
        rw [Nat.succ_mul] at this; omega
      simp only [List.getD_eq_getElem?_getD, List.getElem?_take, if_pos this]
    have sp : mulT p a b (2 ^ k) (2 ^ (x :: xs).length) (2 ^ ys.length) = mulT p (a.take (2 ^ (xs.length + k))) b (2 ^ k) (2 ^ xs.length) (2 ^ ys.length) ++ mulT p (a.drop (2 ^ (xs.length + k))) b (2 ^ k) (2 ^ xs.length) (2 ^ ys.length) := by
      unfold mulT
      rw [List.length_cons, Nat.pow_succ, Nat.mul_two, List.range_add, List.flatMap_append, List.flatMap_map]
      congr 1
      · simp only [List.flatMap]
        congr 1
        apply List.map_congr_left
        intro i hi
        have := row a (2 ^ xs.length) i (List.mem_range.mp hi)
        rw [← Nat.pow_add] at this
        exact this.symm
      · simp only [List.flatMap]
        congr 1
        apply List.map_congr_left
        intro i hi
        apply List.map_congr_left
        intro l _
        congr 1
        refine rsum_congr _ fun j _ => ?_
        congr 1
        simp only [List.getD_eq_getElem?_getD, List.getElem?_drop]
        congr 2
        rw [Nat.add_mul, ← Nat.pow_add]; omega
    have len : (mulT p (a.take (2 ^ (xs.length + k))) b (2 ^ k) (2 ^ xs.length) (2 ^ ys.length)).length = 2 ^ (xs ++ ys).length := by
      simp [mulT, List.map_const', List.sum_replicate_nat, Nat.pow_add]
    rw [sp]
    simp only [List.cons_append, K03.E, ← len, List.take_left, List.drop_left]
    refine (((K03.Eqp.refl p (1 - x)).mul a1).add ((K03.Eqp.refl p x).mul a2)).trans (.rfl' ?_)
    rw [← rsum_mul, ← rsum_mul, ← rsum_add]
    refine rsum_congr _ fun j _ => ?_
    rw [show (xs ++ K03.lbits j k).length = xs.length + k by simp [K03.lbits]]
    grind
theorem whl_one {p : Int} (hp : 0 < p) {n k : Nat} {t xs : List Int} (hl : t.length = 2 ^ n) (hk : k ≤ n) (hx : xs.length = n - k) : whl p .one [ffx p t xs] = K03.dot (foldT p t (2 ^ k) (2 ^ (n - k))) (K03.W p 1 xs) % p := by
  have l := ffx_len p xs t k (by rw [hl, hx]; congr 1; omega)
  have e1 : K03.Eqp p (whl p .one [ffx p t xs]) (ffx p t xs).sum := by
    unfold whl
    refine (K03.Eqp.md p _).trans (.rfl' ?_)
    congr 1
    apply List.ext_getElem?
    intro i
    by_cases hi : i < (ffx p t xs).length
    · simp [trm, cl, hi]
    · rw [List.getElem?_eq_none (by simpa using hi), List.getElem?_eq_none (by omega)]
  have r := whl_rng hp .one [ffx p t xs]
  refine (K03.Eqp.lift (e1.trans ?_) r.1 r.2).symm
  rw [← sum_E k _ l]
  have h' : t.length = 2 ^ xs.length * 2 ^ k := by rw [hl, hx, ← Nat.pow_add]; congr 1; omega
  refine (K03.Eqp.trans (sum_eqp p _ _ (fun b => K03.E t (xs ++ b)) fun b hb => ffx_E p xs t b (by rw [hl, hx, (allBits_mem k b hb).1]; congr 1; omega)) (E_fold p k xs t h').symm).trans ?_
  rw [← hx]
  exact (evE _ xs (by simp [foldT])).symm
theorem whl_two {p : Int} (hp : 0 < p) {n k : Nat} {ta tb xs ys : List Int} (la : ta.length = 2 ^ n) (lb : tb.length = 2 ^ n) (hk : k ≤ n) (hx : xs.length = n - k) (hy : ys.length = n - k) :
    whl p .two [ffx p ta xs, lfx p tb ys (2 ^ k)] = K03.dot (mulT p ta tb (2 ^ k) (2 ^ (n - k)) (2 ^ (n - k))) (K03.W p 1 (xs ++ ys)) % p := by
  have l := ffx_len p xs ta k (by rw [la, hx]; congr 1; omega)
  have r := whl_rng hp .two [ffx p ta xs, lfx p tb ys (2 ^ k)]
  have e2 := mul_E p k tb ys xs ta (by rw [la, hx]; congr 1; omega)
  have e3 : K03.Eqp p (K03.dot (mulT p ta tb (2 ^ k) (2 ^ (n - k)) (2 ^ (n - k))) (K03.W p 1 (xs ++ ys))) (K03.E (mulT p ta tb (2 ^ k) (2 ^ xs.length) (2 ^ ys.length)) (xs ++ ys)) := by
    rw [hx, hy]
    refine evE _ _ ?_
    rw [List.length_append, hx, hy, Nat.pow_add]
    simp [mulT, List.map_const', List.sum_replicate_nat]
  refine (K03.Eqp.lift (K03.Eqp.symm ((e3.trans e2).trans ?_)) r.1 r.2).symm
  unfold whl
  refine K03.Eqp.symm ((K03.Eqp.md p _).trans ?_)
  rw [show (([ffx p ta xs, lfx p tb ys (2 ^ k)] : List (List Int)).getD 0 []).length = 2 ^ k from l]
  refine rsum_eqp _ fun j hj => ?_
  refine (K03.Eqp.md p _).trans ?_
  refine K03.Eqp.mul ?_ ?_
  · have e := K03.E_bits k j (ffx p ta xs) l hj
    have : cl [ffx p ta xs, lfx p tb ys (2 ^ k)] j 0 = K03.E (ffx p ta xs) (K03.lbits j k) := by
      show (ffx p ta xs).getD j 0 = _
      rw [List.getD_eq_getElem?_getD, e]; rfl
    rw [this]
    exact ffx_E p xs ta _ (by rw [la, hx, K03.lbits_len]; congr 1; omega)
  · have bl : j * 2 ^ ys.length + 2 ^ ys.length ≤ tb.length := by
      have e : tb.length = 2 ^ k * 2 ^ ys.length := by rw [lb, hy, ← Nat.pow_add]; congr 1; omega
      have := Nat.mul_le_mul_right (2 ^ ys.length) hj
      rw [Nat.succ_mul] at this; omega
    have : cl [ffx p ta xs, lfx p tb ys (2 ^ k)] j 1 = K03.dot ((tb.drop (j * 2 ^ ys.length)).take (2 ^ ys.length)) (K03.W p 1 ys) % p := by
      show (lfx p tb ys (2 ^ k)).getD j 0 = _
      simp [lfx, hj]
    rw [this, chunk_rng bl]
    exact (K03.Eqp.md p _).trans (evE _ ys (by simp))
theorem W_len1 (p : Int) {xs : List Int} {n : Nat} (h : xs.length = n) : (K03.W p 1 xs).length = 2 ^ n := by rw [K03.W_len, h]
theorem whl_three {p : Int} (hp : 0 < p) {n : Nat} {ta tb xs : List Int} (la : ta.length = 2 ^ n) (lb : tb.length = 2 ^ n) (hx : xs.length = n) : whl p .three [K03.W p 1 xs, ta, tb] = K03.dot (opT p "mul" ta tb) (K03.W p 1 xs) % p := by
  have r := whl_rng hp .three [K03.W p 1 xs, ta, tb]
  have wl := W_len1 p hx
  refine (K03.Eqp.lift (K03.Eqp.symm ?_) r.1 r.2).symm
  rw [dot_rng (2 ^ n) _ _ (by simp [opT, la, lb]) wl]
  unfold whl
  refine K03.Eqp.symm ((K03.Eqp.md p _).trans ?_)
  rw [show (([K03.W p 1 xs, ta, tb] : List (List Int)).getD 0 []).length = 2 ^ n from wl]
  refine rsum_eqp _ fun j hj => ?_
  refine (K03.Eqp.md p _).trans ?_
  have e : (opT p "mul" ta tb).getD j 0 = (ta.getD j 0 * tb.getD j 0) % p := by
    simp [opT, la, lb, hj]
  rw [e]
  refine K03.Eqp.symm (((K03.Eqp.md p _).mul (.refl _ _)).trans (.rfl' ?_))
  show _ = (K03.W p 1 xs).getD j 0 * (ta.getD j 0 * tb.getD j 0)
  grind
theorem pick_get (p : Int) : ∀ {c a b : List Int} {n : Nat} (j : Nat), c.length = n → a.length = n → b.length = n → j < n → (pickT p c a b).getD j 0 = (c.getD j 0 * a.getD j 0 + (1 - c.getD j 0) * b.getD j 0) % p ∧ (pickT p c a b).length = n
  | [], _, _, _, j, h, _, _, hj => by simp at h; omega
  | _ :: _, [], _, _, j, h, h2, _, hj => by simp at h2; omega
  | _ :: _, _ :: _, [], _, j, h, _, h3, hj => by simp at h3; omega
  | c :: cs, a :: as, b :: bs, n, 0, h1, h2, h3, hj => by
    simp at h1 h2 h3
    by_cases hc : cs = []
    · subst hc
      simp at h1
      have : as = [] := List.length_eq_zero_iff.mp (by omega)
      subst this
      have : bs = [] := List.length_eq_zero_iff.mp (by omega)
      subst this
      simp [pickT]; omega
    · have := pick_get p (c := cs) (a := as) (b := bs) 0 rfl (by omega) (by omega) (List.length_pos_iff.mpr hc)
      simp [pickT, this.2]; omega
  | c :: cs, a :: as, b :: bs, n, j + 1, h1, h2, h3, hj => by
    simp at h1 h2 h3
    have := pick_get p (c := cs) (a := as) (b := bs) j rfl (by omega) (by omega) (by omega)
    simpa [pickT, this.2, h1] using this.1
theorem whl_choice {p : Int} (hp : 0 < p) {n : Nat} {ta tb tc xs : List Int} (la : ta.length = 2 ^ n) (lb : tb.length = 2 ^ n) (lc : tc.length = 2 ^ n) (hx : xs.length = n) : whl p .choice [K03.W p 1 xs, tc, ta, tb] = K03.dot (pickT p tc ta tb) (K03.W p 1 xs) % p := by
  have r := whl_rng hp .choice [K03.W p 1 xs, tc, ta, tb]
  have wl := W_len1 p hx
  have pl := (pick_get p 0 lc la lb (Nat.two_pow_pos n)).2
  refine (K03.Eqp.lift (K03.Eqp.symm ?_) r.1 r.2).symm
  rw [dot_rng (2 ^ n) _ _ pl wl]
  unfold whl
  refine K03.Eqp.symm ((K03.Eqp.md p _).trans ?_)
  rw [show (([K03.W p 1 xs, tc, ta, tb] : List (List Int)).getD 0 []).length = 2 ^ n from wl]
  refine rsum_eqp _ fun j hj => ?_
  refine (K03.Eqp.md p _).trans ?_
  rw [(pick_get p j lc la lb hj).1]
  refine K03.Eqp.symm (((K03.Eqp.md p _).mul (.refl _ _)).trans (.rfl' ?_))
  show _ = (K03.W p 1 xs).getD j 0 * (tc.getD j 0 * ta.getD j 0 + (1 - tc.getD j 0) * tb.getD j 0)
  grind
/-! claims made one -/
def mxw (p x : Int) (n : Nat) (pts : List (List Int)) : List Int := (List.range (2 ^ n)).map fun i => ((List.range pts.length).map fun c => pwr p x c * (K03.W p 1 (pts.getD c [])).getD i 0).sum % p
theorem mxw_rng {p : Int} (hp : 0 < p) (x : Int) (n : Nat) (pts : List (List Int)) : Rng p (mxw p x n pts) := by
  intro y hy
  obtain ⟨i, _, rfl⟩ := List.mem_map.mp hy
  exact mod_rng hp _
theorem whl_mixed {p : Int} (hp : 0 < p) {n : Nat} {ta : List Int} {pts : List (List Int)} (x : Int) (la : ta.length = 2 ^ n) (hx : ∀ t ∈ pts, t.length = n) : whl p .two [ta, mxw p x n pts] = ((List.range pts.length).map fun c => pwr p x c * (K03.dot ta (K03.W p 1 (pts.getD c [])) % p)).sum % p := by
  have r := whl_rng hp .two [ta, mxw p x n pts]
  refine (K03.Eqp.lift (K03.Eqp.symm ?_) r.1 r.2).symm
  unfold whl
  refine K03.Eqp.symm ((K03.Eqp.md p _).trans ?_)
  rw [show (([ta, mxw p x n pts] : List (List Int)).getD 0 []).length = 2 ^ n from la]
  have e1 : K03.Eqp p ((List.range (2 ^ n)).map fun i => trm p .two (cl [ta, mxw p x n pts] i)).sum ((List.range (2 ^ n)).map fun i => ((List.range pts.length).map fun c => ta.getD i 0 * (pwr p x c * (K03.W p 1 (pts.getD c [])).getD i 0)).sum).sum := by
    refine rsum_eqp _ fun i hi => ?_
    refine (K03.Eqp.md p _).trans ?_
    rw [rsum_mul]
    refine K03.Eqp.mul (.refl _ _) ?_
    have : cl [ta, mxw p x n pts] i 1 = ((List.range pts.length).map fun c => pwr p x c * (K03.W p 1 (pts.getD c [])).getD i 0).sum % p := by
      show (mxw p x n pts).getD i 0 = _
      simp [mxw, hi]
    rw [this]
    exact K03.Eqp.md p _
  refine e1.trans ?_
  rw [rsum_swap]
  refine rsum_eqp _ fun c hc => ?_
  have hp' : (pts.getD c []).length = n := by
    have : pts.getD c [] = pts[c] := by simp [hc]
    rw [this]; exact hx _ (List.getElem_mem hc)
  refine K03.Eqp.symm (((K03.Eqp.refl p _).mul (K03.Eqp.md p _)).trans (.rfl' ?_))
  rw [dot_rng (2 ^ n) _ _ la (W_len1 p hp'), ← rsum_mul]
  refine rsum_congr _ fun i _ => ?_
  grind
def fxPr (p x : Int) : D → D
  | .tup [.int a, .int b] => D.int ((a + x * (b - a)) % p)
  | _ => .non
theorem fxPr_map (p x : Int) : ∀ {ts ws : List Int}, (zipD (IL ts) (IL ws)).mapIdx (fun _ d => fxPr p x d) = IL (K03.fx p x ts ws)
  | [], _ => by simp [zipD, K03.fx]
  | _ :: _, [] => by simp [zipD, K03.fx]
  | t :: ts, w :: ws => by
    have := @fxPr_map p x ts ws
    have e : t + x * (w - t) = (1 - x) * t + x * w := by grind
    simpa [zipD, List.mapIdx_cons, K03.fx, fxPr, e] using this
abbrev abcD (ta tb tc : List Int) : DO := .dct [(.inr "a", .tup (IL ta)), (.inr "b", .tup (IL tb)), (.inr "c", .tup (IL tc))]
/-- what a form's summand is, at a point -/
inductive FormS (p : Int) (n : Nat) (ta tb tc : List Int) : List D → List Int → Wd → List (List Int) → Prop
  | mul (xs : List Int) : xs.length = n → FormS p n ta tb tc [.str "mul", .str "a", .str "b"] xs .three [K03.W p 1 xs, ta, tb]
  | pick (xs : List Int) : xs.length = n → FormS p n ta tb tc [.str "pick", .str "c", .str "a", .str "b"] xs .choice [K03.W p 1 xs, tc, ta, tb]
  | sum (k : Nat) (xs : List Int) : k ≤ n → xs.length = n - k → FormS p n ta tb tc [.str "sum", .str "a", .int k] xs .one [ffx p ta xs]
  | product (k : Nat) (xs ys : List Int) : k ≤ n → xs.length = n - k → ys.length = n - k → FormS p n ta tb tc [.str "product", .str "a", .str "b", .int k] (xs ++ ys) .two [ffx p ta xs, lfx p tb ys (2 ^ k)]
def sumD (w : Wd) (ts : List (List Int)) : D := .tup [.str (Str.ofString w.str), .tup (TL ts)]
/-- some tables: a tuple or a list of them -/
def SmD (h : DH) (x : D) (ts : List (List Int)) : Prop := x = .tup (TL ts) ∨ ∃ a : Addr, x = .ref a ∧ h a = some (.lst (TL ts))
theorem ffx_take (p : Int) (t xs : List Int) {i : Nat} {x : Int} (hx : xs[i]? = some x) : ffx p t (xs.take (i + 1)) = K03.fx p x ((ffx p t (xs.take i)).take ((ffx p t (xs.take i)).length / 2)) ((ffx p t (xs.take i)).drop ((ffx p t (xs.take i)).length / 2)) := by
  unfold ffx
  rw [take_next hx, List.foldl_append]; rfl
theorem sm_lc {te te' : DTE} {g : DTG} {vs : List Nat} {σ : DS} {h h1 : DH} {Q : List D → DH → Prop} {x : D} {ts : List (List Int)} (hx : SmD h1 x ts) (f : List Int → D) (t : ∀ Q : DK, Q x h1 → te σ h Q) (hz : ts.length ≤ 16777216)
    (turn : ∀ (t : List Int) (Q : DK), t ∈ ts → Q (f t) h1 → g (.tup (IL t)) (dwipe σ vs) h1 fun σ2 h2 => te' σ2 h2 Q) (done : Q (ts.map f) h1) : dLc (dSeqI te) g dYes te' vs σ h Q := by
  rcases hx with rfl | ⟨a, rfl, e⟩
  · exact lc_of (stay := fun _ => True) ts (fun t => .tup (IL t)) f (fun R r => seq_tup t r) trivial hz turn done
  · exact lc_of ts (fun t => .tup (IL t)) f (fun R r => seq_lst t e r) e hz turn done
theorem sm_ix {h : DH} {Q : DK} {x : D} {ts : List (List Int)} {j : Nat} {t : List Int} (hx : SmD h x ts) (e : ts[j]? = some t) (q : Q (.tup (IL t)) h) : rIx x (.int (j : Nat)) h Q := by
  have e1 : (TL ts)[(j : Int).toNat]? = some (.tup (IL t)) := by simp [e]
  rcases hx with rfl | ⟨a, rfl, ea⟩
  · exact DL.ix_tup (by omega) e1 q
  · exact ix_ref ea (by omega) e1 q
theorem pws_len (p x : Int) (m : Nat) : (pws p x m).length = m := by simp [pws]
theorem pyAll_tups (h : DH) (k : Nat) : ∀ ts : List (List Int), pyAll (pyD h (k + 2)) (TL ts) = some (ts.map fun t => PyData.tuple (t.map .int))
  | [] => rfl
  | t :: ts => by
    have ih := pyAll_tups h k ts
    simp only [TL, List.map_cons, pyAll] at ih ⊢
    rw [pyD_ints h k, ih]
theorem lay_tups : ∀ ts : List (List Int), PyData.canLayAll0 (ts.map fun t => PyData.tuple (t.map .int)) = true
  | [] => rfl
  | t :: ts => by simp [PyData.canLayAll0, PyData.canLay0, shaped_ints, lay_tups ts]
theorem depth_tups : ∀ ts : List (List Int), PyData.depthAll (ts.map fun t => PyData.tuple (t.map .int)) ≤ 1
  | [] => by simp [PyData.depthAll]
  | t :: ts => by
    have := depth_tups ts
    simp only [List.map_cons, PyData.depthAll, PyData.depth, depth_ints]; omega
theorem shaped_sum {x : Str} (k : PyData.strOk x = true) (ts : List (List Int)) : SeqAt.shaped (.tuple [.str x, .tuple (ts.map fun t => PyData.tuple (t.map .int))]) = true := by
  have := depth_tups ts
  have hd : PyData.depthAll (ts.map fun t => PyData.tuple (t.map .int)) = 0 ∨ PyData.depthAll (ts.map fun t => PyData.tuple (t.map .int)) = 1 := by omega
  rcases hd with e | e <;> simp only [SeqAt.shaped, PyData.canLay0, PyData.canLayAll0, PyData.depth, PyData.depthAll, lay_tups, k, e] <;> decide
theorem rNeU_sum {w : Wd} {ts : List (List Int)} {h : DH} {Q : DK} (q : Q (.bl false) h) : rNeU (sumD w ts) (sumD w ts) h Q := by
  have e : pyD h 12 (sumD w ts) = some (.tuple [.str (Str.ofString w.str), .tuple (ts.map fun t => PyData.tuple (t.map .int))]) := by
    show (pyAll (pyD h 11) [.str (Str.ofString w.str), .tup (TL ts)]).map PyData.tuple = _
    have e2 : pyD h 11 (.tup (TL ts)) = some (.tuple (ts.map fun t => PyData.tuple (t.map .int))) := by
      show (pyAll (pyD h 10) (TL ts)).map PyData.tuple = _
      rw [pyAll_tups h 8]; rfl
    simp only [pyAll, e2]
    rfl
  exact rNeU_same e e (shaped_sum (by cases w <;> decide +kernel) ts) q
theorem put1 {x y : D} : putG [((.inr "a" : Key), x)] (.inr "b") y = [(.inr "a", x), (.inr "b", y)] := by
  unfold putG; rw [if_neg (by decide +kernel)]; rfl
theorem put2 {x y z : D} : putG [((.inr "a" : Key), x), (.inr "b", y)] (.inr "c") z = [(.inr "a", x), (.inr "b", y), (.inr "c", z)] := by
  unfold putG; rw [if_neg (by decide +kernel)]; unfold putG; rw [if_neg (by decide +kernel)]; rfl
def kvT : List (List Int) → List (Key × D)
  | [] => []
  | [a] => [(.inr "a", .tup (IL a))]
  | [a, b] => [(.inr "a", .tup (IL a)), (.inr "b", .tup (IL b))]
  | a :: b :: c :: _ => [(.inr "a", .tup (IL a)), (.inr "b", .tup (IL b)), (.inr "c", .tup (IL c))]
theorem lc_dep2 {ti : DTI} {g : DTG} {tt : DTT} {te : DTE} {vs : List Nat} {σ : DS} {h : DH} {Q : List D → DH → Prop} (Good : List D → DH → (DH → Prop) → Prop) (hi : ∀ R : List D → (DH → Prop) → DH → Prop, (∀ its h1 stay, Good its h1 stay → R its stay h1) → ti σ h R)
    (go : ∀ its h1 stay, Good its h1 stay → dLc (fun _ _ R => R its stay h1) g tt te vs σ h Q) : dLc ti g tt te vs σ h Q := hi _ go
/-- a comprehension whose elements draw from the bag -/
theorem lc_bag {α : Type} {ti : DTI} {g : DTG} {te : DTE} {vs : List Nat} {σ : DS} {h h1 : DH} {Q : List D → DH → Prop} {its : List D} {stay : DH → Prop} {b c : Addr} (f : α → D) (Ok : α → Prop) (hm : its.length ≤ 1000000) (hi : ∀ R : List D → (DH → Prop) → DH → Prop, R its stay h1 → ti σ h R) (hst : ∀ h', Off b h1 h' → stay h') (hb : BagC h1 b c)
    (turn : ∀ (d : D) (h : DH) (Q : DK), d ∈ its → BagC h b c → (∀ x h', Ok x → BagC h' b c → Off b h h' → Q (f x) h') → g d (dwipe σ vs) h fun σ2 h2 => te σ2 h2 Q) (done : ∀ (xs : List α) (h' : DH), xs.length = its.length → (∀ x ∈ xs, Ok x) → BagC h' b c → Off b h1 h' → Q (xs.map f) h') : dLc ti g dYes te vs σ h Q := by
  refine lc_mk hi (fun i acc h' => BagC h' b c ∧ Off b h1 h' ∧ i ≤ its.length ∧ ∃ xs : List α, acc = xs.map f ∧ xs.length = i ∧ ∀ x ∈ xs, Ok x) ⟨hb, .refl _ _, by omega, [], rfl, rfl, by intro x hx; simp at hx⟩ (fun _ _ _ q => hst _ q.2.1) ?_ ?_
  · rintro i d acc h hd ⟨hb, ho, him, xs, rfl, hl, hr⟩
    have hi : i < its.length := (List.getElem?_eq_some_iff.mp hd).1
    refine turn d h _ (List.mem_of_getElem? hd) hb fun x h' ok hb' ho' => ⟨lt_size (by simp; omega), hb', ho.trans ho', by omega, xs ++ [x], by simp, by simp [hl], ?_⟩
    intro y hy
    simp only [List.mem_append, List.mem_singleton] at hy
    rcases hy with hy | rfl
    · exact hr y hy
    · exact ok
  · rintro acc h ⟨hb, ho, him, xs, rfl, hl, hr⟩
    exact done xs h hl hr hb ho
theorem SmD.sub {h h' : DH} {x : D} {ts : List (List Int)} (g : SmD h x ts) (s : Sub h h') : SmD h' x ts := by
  rcases g with e | ⟨a, e, g⟩
  · exact .inl e
  · exact .inr ⟨a, e, s _ _ g⟩
theorem SmD.upd {h : DH} {x : D} {ts : List (List Int)} {L : Addr} {o : DO} (g : SmD h x ts) (ne : x ≠ .ref L) : SmD (updD h L o) x ts := by
  rcases g with e | ⟨a, rfl, g⟩
  · exact .inl e
  · exact .inr ⟨a, rfl, by rw [updD_ne (by rintro rfl; exact ne rfl)]; exact g⟩
theorem SmD.off {h h' : DH} {x : D} {ts : List (List Int)} {b : Addr} (g : SmD h x ts) (ne : x ≠ .ref b) (s : Off b h h') : SmD h' x ts := by
  rcases g with e | ⟨a, rfl, g⟩
  · exact .inl e
  · exact .inr ⟨a, rfl, (s a (by rintro rfl; exact ne rfl)).trans g⟩
theorem SmD.new {h : DH} {x : D} {ts : List (List Int)} {L : Addr} (g : SmD h x ts) (n : h L = none) : x ≠ .ref L := by
  rcases g with rfl | ⟨a, rfl, g⟩
  · simp
  · rintro e; cases e; rw [n] at g; cases g
theorem SmD.bag {h : DH} {x : D} {ts : List (List Int)} {b c : Addr} (g : SmD h x ts) (hb : BagC h b c) : x ≠ .ref b := by
  rcases g with rfl | ⟨a, rfl, g⟩
  · simp
  · rintro e
    cases e
    obtain ⟨b0, b1, b2, cs, gb, _⟩ := hb
    rw [gb] at g
    have := Option.some.inj g
    simp only [DO.lst.injEq] at this
    cases ts with
    | nil => simp at this
    | cons t ts => simp at this
theorem op_rng {p : Int} (hp : 0 < p) (a b : List Int) : Rng p (opT p "mul" a b) := by
  intro y hy
  obtain ⟨i, hi, e⟩ := List.getElem_of_mem hy
  simp only [opT, List.getElem_zipWith] at e
  rw [← e]
  exact mod_rng hp _
theorem pick_rng {p : Int} (hp : 0 < p) : ∀ c a b : List Int, Rng p (pickT p c a b)
  | [], _, _ => by intro y hy; simp [pickT] at hy
  | _ :: _, [], _ => by intro y hy; simp [pickT] at hy
  | _ :: _, _ :: _, [] => by intro y hy; simp [pickT] at hy
  | c :: cs, a :: as, b :: bs => by
    intro y hy
    simp only [pickT, List.mem_cons] at hy
    rcases hy with rfl | hy
    · exact mod_rng hp _
    · exact pick_rng hp cs as bs y hy
theorem fold_rng {p : Int} (hp : 0 < p) (t : List Int) (m w : Nat) : Rng p (foldT p t m w) := by
  intro y hy
  obtain ⟨i, _, rfl⟩ := List.mem_map.mp hy
  exact mod_rng hp _
theorem mul_rng {p : Int} (hp : 0 < p) (a b : List Int) (m r w : Nat) : Rng p (mulT p a b m r w) := by
  intro y hy
  simp only [mulT, List.mem_flatMap, List.mem_map] at hy
  obtain ⟨i, _, l, _, rfl⟩ := hy
  exact mod_rng hp _
theorem zipD_pts (as : List Int) (bs : List (List Int)) (h : as.length = bs.length) : zipD (IL as) (TL bs) = (List.range bs.length).map fun i => D.tup [.int (as.getD i 0), .tup (IL (bs.getD i []))] := by
  apply List.ext_getElem?
  intro i
  by_cases hi : i < bs.length
  · have ha : i < as.length := by omega
    rw [zipD_get (x := .int as[i]) (y := .tup (IL bs[i])) (by simp [ha]) (by simp [hi])]
    simp [hi, ha]
  · rw [List.getElem?_eq_none (by rw [zipD_len]; simp; omega), List.getElem?_eq_none (by simp; omega)]
theorem dput_ref {v y : D} {h : DH} {R : DH → Prop} {a : Addr} {kvs : List (Key × D)} {k : Key} (e : h a = some (.dct kvs)) (ek : keyD y = some k) (l : kvs.length < sizeLine) (nd : (kvs.map (·.1)).Nodup) (q : R (updD h a (.dct (putG kvs k v)))) : rDPut v (.ref a) y h R := by
  simp only [rDPut, dictD, e, ek]
  exact ⟨l, nd, q⟩
theorem kvT_put {tabs : List (List Int)} {dd : D} {i : Nat} (ht : tabs.length = i) (hd : ([.str "a", .str "b", .str "c"] : List D)[i]? = some dd) (t : List Int) : ∃ k : Key, keyD dd = some k ∧ (kvT tabs).length < sizeLine ∧ ((kvT tabs).map (·.1)).Nodup ∧ putG (kvT tabs) k (.tup (IL t)) = kvT (tabs ++ [t]) := by
  match tabs, i, ht, hd with
  | [], _, rfl, hd => cases hd; exact ⟨.inr "a", rfl, lt_size (by decide), by simp [kvT], rfl⟩
  | [x], _, rfl, hd => cases hd; exact ⟨.inr "b", rfl, lt_size (by show 1 < 16777216; decide), by simp [kvT], put1⟩
  | [x, y], _, rfl, hd => cases hd; exact ⟨.inr "c", rfl, lt_size (by show 2 < 16777216; decide), by show ([.inr "a", .inr "b"] : List Key).Nodup; decide +kernel, put2⟩
  | _ :: _ :: _ :: r, _, rfl, hd => simp at hd
theorem deg_at {h : DH} {Q : DK} {g : Addr} {w : Wd} (e : h g = some (.dct [(.inr "one", .int 1), (.inr "two", .int 2), (.inr "three", .int 3), (.inr "choice", .int 3)])) (q : Q (.int (w.deg : Nat)) h) : rDGet (.ref g) (.str (Str.ofString w.str)) h Q := by
  refine rDGet_ref (k := .inr (Str.ofString w.str)) e rfl ?_ q
  cases w <;> rfl
theorem pwr_rng {p : Int} (p1 : 1 < p) (x : Int) : ∀ i, 0 ≤ pwr p x i ∧ pwr p x i < p
  | 0 => ⟨by simp [pwr], by simp [pwr]; omega⟩
  | i + 1 => mod_rng (by omega) _
/-- the places of a form's operands -/
def OpIx (w : String) (is : List Nat) : Prop := ((w = "add" ∨ w = "sub" ∨ w = "mul" ∨ w = "join" ∨ w = "product") ∧ is = [1, 2]) ∨ (w = "pick" ∧ is = [1, 2, 3]) ∨ ((w = "sum" ∨ w = "spread" ∨ w = "low" ∨ w = "high" ∨ w = "turn") ∧ is = [1])
theorem BagC.uniq {h : DH} {b c d : Addr} (g : BagC h b c) (k : BagC h b d) : c = d := by
  obtain ⟨_, _, _, _, e1, _⟩ := g
  obtain ⟨_, _, _, _, e2, _⟩ := k
  rw [e1] at e2
  have := Option.some.inj e2
  simp only [DO.lst.injEq, List.cons.injEq, D.ref.injEq] at this
  exact this.2.2.2.1
end DL

namespace DL
open PySem PySem.Spec L2
open PyProof.Rows hiding St
/-! ### repr of tuples with dicts among them -/
def keyP : Key → PyData
  | .inl i => .int i
  | .inr x => .str x
mutual
inductive DpT (K : PySem.W.Frag) (H : Hp) : V → PyData → Prop
  | non : DpT K H .non .none
  | bl (b : Bool) : DpT K H (.bl b) (.bool b)
  | int (i : Int) : DpT K H (.int i) (.int i)
  | str (x : Str) : DpT K H (.str x) (.str x)
  | tup {a : Addr} {xs : List V} {ds : List PyData} : SqT K H a xs → DpTs K H xs ds → DpT K H (.ref a) (.tuple ds)
  | dct {a : Addr} {kvs : List (Key × V)} {ds : List (PyData × PyData)} : H a = some (.dK kvs) → DpKv K H kvs ds → DpT K H (.ref a) (.dict ds)
inductive DpTs (K : PySem.W.Frag) (H : Hp) : List V → List PyData → Prop
  | nil : DpTs K H [] []
  | cons {v : V} {vs : List V} {d : PyData} {ds : List PyData} : DpT K H v d → DpTs K H vs ds → DpTs K H (v :: vs) (d :: ds)
inductive DpKv (K : PySem.W.Frag) (H : Hp) : List (Key × V) → List (PyData × PyData) → Prop
  | nil : DpKv K H [] []
  | cons {k : Key} {v : V} {kvs : List (Key × V)} {d : PyData} {ds : List (PyData × PyData)} : DpT K H v d → DpKv K H kvs ds → DpKv K H ((k, v) :: kvs) ((keyP k, d) :: ds)
end
section
variable {X : Cx} {pins : List (Addr × Obj)} {σ : St} {H : Hp} {s : Shared}
theorem key_reads {k : Key} {u : Value} (h : keyIs k u = true) : Reads s.heap u (keyP k) [] := by
  rcases keyIs_shape h with ⟨i, t, rfl, rfl⟩ | ⟨x, t, rfl, rfl⟩
  · exact .int i t
  · exact .str x t
mutual
theorem DpT.reads (I : Inv X pins σ H s) : ∀ (d : PyData) (v : V) (u : Value), DpT X.K H v d → RelV v u → ∃ as, Reads s.heap u d as ∧ sysModules ∉ as
  | .none, _, _, h, r => by
    cases h
    cases r
    exact ⟨_, Reads.none, by simp⟩
  | .bool b, _, _, h, r => by
    cases h
    cases r
    exact ⟨_, Reads.bool b, by simp⟩
  | .int i, _, _, h, r => by
    cases h
    obtain ⟨t, rfl⟩ := r
    exact ⟨_, Reads.int i t, by simp⟩
  | .str x, _, _, h, r => by
    cases h
    obtain ⟨t, rfl⟩ := r
    exact ⟨_, Reads.str x t, by simp⟩
  | .list _, _, _, h, _ => by cases h
  | .tuple ds, _, _, h, r => by
    cases h with
    | tup hs ha =>
      cases r
      obtain ⟨its, rv, ⟨o, ho, hc, n, hd⟩, _⟩ := I.tuple hs
      obtain ⟨as, hr, hm⟩ := DpTs.reads I ds _ its ha rv
      exact ⟨_, Reads.tuple ho hc hd hr, hm⟩
  | .dict ds, _, _, h, r => by
    cases h with
    | dct hx ha =>
      cases r
      obtain ⟨_, hsys, vs, kv, o, es, ep, ho, hex, hdt, _, hp, _⟩ := dk_of I.hok hx
      obtain ⟨as, bs, h1, h2, m1, m2⟩ := DpKv.reads I ds _ vs es.toList ha kv hp
      refine ⟨_, Reads.dict ho hex.1 hdt h1 h2, ?_⟩
      simp only [List.cons_append, List.mem_cons, List.mem_append, not_or]
      exact ⟨fun e => by simp [e] at hsys, m1, m2⟩
theorem DpTs.reads (I : Inv X pins σ H s) : ∀ (ds : List PyData) (vs : List V) (us : List Value), DpTs X.K H vs ds → Vals vs us → ∃ as, ReadsAll s.heap us ds as ∧ sysModules ∉ as
  | [], _, _, h, r => by
    cases h
    cases r
    exact ⟨_, ReadsAll.nil, by simp⟩
  | d :: ds, _, _, h, r => by
    cases h with
    | cons h1 h2 =>
      cases r with
      | cons r1 r2 =>
        obtain ⟨as, q1, m1⟩ := DpT.reads I d _ _ h1 r1
        obtain ⟨bs, q2, m2⟩ := DpTs.reads I ds _ _ h2 r2
        exact ⟨_, ReadsAll.cons q1 q2, by simp [m1, m2]⟩
theorem DpKv.reads (I : Inv X pins σ H s) : ∀ (ds : List (PyData × PyData)) (kvs : List (Key × V)) (vs : List (Key × Value)) (es : List DictEntry), DpKv X.K H kvs ds → KV kvs vs → PySem.Pairs (mixKind X.prog X.w) es vs →
    ∃ as bs, ReadsAll s.heap (es.map (·.key)) (ds.map (·.1)) as ∧ ReadsAll s.heap (es.map (·.val)) (ds.map (·.2)) bs ∧ sysModules ∉ as ∧ sysModules ∉ bs
  | [], _, _, _, h, r, p => by
    cases h
    cases r
    cases p
    exact ⟨_, _, ReadsAll.nil, ReadsAll.nil, by simp, by simp⟩
  | (_, d) :: ds, _, _, _, h, r, p => by
    cases h with
    | cons h1 h2 =>
      cases r with
      | cons r1 r2 =>
        cases p with
        | cons p1 p2 p3 =>
          obtain ⟨e1, e2⟩ := r1
          obtain ⟨as, q1, m1⟩ := DpT.reads I d _ _ h1 e2
          obtain ⟨bs, cs, q2, q3, m2, m3⟩ := DpKv.reads I ds _ _ _ h2 r2 p3
          have e1 : _ = _ := e1
          have kr : Reads s.heap _ (keyP _) [] := key_reads p1
          rw [← e1] at kr
          rw [← p2] at q1
          exact ⟨_, _, ReadsAll.cons kr q2, ReadsAll.cons q1 q3, by simpa using m2, by simp [m1, m3]⟩
end
end
def pyKv (f : D → Option PyData) : List (Key × D) → Option (List (PyData × PyData))
  | [] => some []
  | (k, d) :: r => match f d, pyKv f r with
    | some x, some xs => some ((keyP k, x) :: xs)
    | _, _ => none
def pyT (h : DH) : Nat → D → Option PyData
  | 0, _ => none
  | n + 1, d => match d with
    | .non => some .none
    | .bl b => some (.bool b)
    | .int i => some (.int i)
    | .str x => some (.str x)
    | .tup ds => (pyAll (pyT h n) ds).map .tuple
    | .rol _ => none
    | .ref a => match h a with
      | some (.dct kvs) => (pyKv (pyT h n) kvs).map .dict
      | _ => none
    | .ty _ => none
theorem pyAll_dpT {K : PySem.W.Frag} {H : Hp} {f : D → Option PyData} (hf : ∀ d v p, f d = some p → Rep K H d v → DpT K H v p) : ∀ {ds : List D} {vs : List V} {ps : List PyData}, pyAll f ds = some ps → Reps K H ds vs → DpTs K H vs ps
  | [], _, _, e, r => by obtain rfl := reps_nil r; cases e; exact .nil
  | d :: ds, _, ps, e, r => by
    obtain ⟨v, r', rfl, a, b⟩ := reps_cons r
    unfold pyAll at e
    split at e
    · rename_i x xs e1 e2
      cases e
      exact .cons (hf _ _ _ e1 a) (pyAll_dpT hf e2 b)
    · cases e
theorem pyKv_dpT {K : PySem.W.Frag} {H : Hp} {f : D → Option PyData} (hf : ∀ d v p, f d = some p → Rep K H d v → DpT K H v p) : ∀ {kvs : List (Key × D)} {vvs : List (Key × V)} {ps : List (PyData × PyData)}, pyKv f kvs = some ps → KReps K H kvs vvs → DpKv K H vvs ps
  | [], vvs, _, e, r => by
    have : vvs = [] := by simpa [KReps] using r
    subst this
    cases e
    exact .nil
  | (k, d) :: kvs, vvs, ps, e, r => by
    simp only [KReps] at r
    obtain ⟨v, r', rfl, a, b⟩ := r
    unfold pyKv at e
    split at e
    · rename_i x xs e1 e2
      cases e
      exact .cons (hf _ _ _ e1 a) (pyKv_dpT hf e2 b)
    · cases e
theorem pyT_dp {K : PySem.W.Frag} {H : Hp} {h : DH} (hr : HR K H h) : ∀ (n : Nat) (d : D) (v : V) (p : PyData), pyT h n d = some p → Rep K H d v → DpT K H v p
  | 0, _, _, _, e, _ => by cases e
  | n + 1, d, v, p, e, r => by
    cases d with
    | non => cases e; rw [show v = V.non by simpa [Rep] using r]; exact .non
    | bl b => cases e; rw [rep_bl r]; exact .bl b
    | int i => cases e; rw [rep_int r]; exact .int i
    | str x => cases e; rw [rep_str r]; exact .str x
    | ty m => cases e
    | rol ds => cases e
    | tup ds =>
      obtain ⟨a, vs, rfl, s, r⟩ := rep_tup r
      have e' : (pyAll (pyT h n) ds).map PyData.tuple = some p := e
      cases q : pyAll (pyT h n) ds with
      | none => rw [q] at e'; cases e'
      | some ps => rw [q] at e'; cases e'; exact .tup s (pyAll_dpT (pyT_dp hr n) q r)
    | ref a =>
      have r0 := r
      obtain rfl := rep_ref r
      have e' : (match h a with
        | some (.dct kvs) => (pyKv (pyT h n) kvs).map PyData.dict
        | _ => none) = some p := e
      split at e'
      · rename_i kvs z
        obtain ⟨a', vvs, ea, ev, ha, hH, kr⟩ := dict_of hr (show dictD h (.ref a) = some kvs by simp [dictD, z]) r0
        cases ea
        cases q : pyKv (pyT h n) kvs with
        | none => rw [q] at e'; cases e'
        | some ps => rw [q] at e'; cases e'; exact .dct hH (pyKv_dpT (pyT_dp hr n) q kr)
      · cases e'
def rReprT : List D → DH → DK → Prop := fun xs h Q => match xs with
  | [d] => match pyT h 12 d with
    | some p => isDisplay p = true ∧ p.showable = true ∧ p.depth ≤ 60 ∧ p.shown.length ≤ sizeLine ∧ Q (.str p.shown) h
    | none => False
  | _ => False
def rReprTV (K : PySem.W.Frag) : List V → Hp → VK → Prop := fun xs H Q => ∃ v p, xs = [v] ∧ DpT K H v p ∧ isDisplay p = true ∧ p.showable = true ∧ p.depth ≤ 60 ∧ p.shown.length ≤ sizeLine ∧ Q (.str p.shown) H
theorem call_reprT {X : Cx} {k : Nat} (hr : Room k X.A) (hg : X.A.guards = some []) : CallR X (.builtin "repr") (rReprTV X.K) := by
  intro pins s σ H xs us Q I r ⟨v, p, e, dp, h1, h2, h4, h5, q⟩
  subst e
  obtain ⟨u, rfl, ru⟩ := vals1 r
  obtain ⟨as, rd, hm⟩ := DpT.reads I p v u dp ru
  obtain ⟨a, rfl⟩ := isRef_of_reads rd h1
  have hu := hr.units
  exact repr_of_reads' rd h2 (fun _ => hm) hg (by omega) (fun _ _ e => e) (fun h' u tk hk => ⟨.str p.shown, H, I.kept (t' := tk) hk, ⟨_, rfl⟩, q⟩) h5
theorem ad_reprT {K : PySem.W.Frag} : AdA K rReprT (rReprTV K) := by
  intro σD σ h H dx x QD Q rs rx q p
  unfold rReprT at q
  split at q
  · rename_i d
    split at q
    · rename_i pp e
      obtain ⟨h1, h2, h4, h5, q⟩ := q
      obtain ⟨v, rfl, rv⟩ := reps_one rx
      exact ⟨v, pp, rfl, pyT_dp rs.hr 12 d v pp e rv, h1, h2, h4, h5, p _ h _ H q rs (by simp [Rep]) .refl⟩
    · exact q.elim
  · exact q.elim
/-! the text's size and signs -/
mutual
def okT : PyData → Bool
  | .none | .bool _ => true
  | .int i => decide (i.natAbs < 1000000000000)
  | .tuple xs => okTs xs
  | .str x => PyData.strOk x && PyData.strOk (reprText x) && x.cps.toList.all fun c => decide (c < 16 ^ 8)
  | .dict kvs => okTk kvs
  | .list _ => false
def okTs : List PyData → Bool
  | [] => true
  | x :: xs => okT x && okTs xs
def okTk : List (PyData × PyData) → Bool
  | [] => true
  | (k, v) :: r => okT k && okT v && okTk r
end
mutual
theorem okT_lay : ∀ p : PyData, okT p = true → p.leavesShort 13 = true ∧ p.showable = true ∧ PyData.strOk p.shown = true
  | .none, _ => ⟨rfl, rfl, by simp only [PyData.shown]; exact strOk_str _⟩
  | .bool _, _ => ⟨rfl, rfl, by simp only [PyData.shown]; split <;> exact strOk_str _⟩
  | .int i, h => by
    have h' : i.natAbs < 1000000000000 := by simpa only [okT, decide_eq_true_eq] using h
    refine ⟨?_, ?_, by simp only [PyData.shown]; exact strOk_str _⟩
    · simp only [PyData.leavesShort, decide_eq_true_eq]; exact int13 h'
    · simp only [PyData.showable, decide_eq_true_eq]
      by_cases z : i.natAbs = 0
      · rw [z]; decide
      · refine (Nat.log2_lt z).mpr (Nat.lt_of_lt_of_le h' ?_)
        exact Nat.le_trans (show 1000000000000 ≤ 2 ^ 40 by decide) (Nat.pow_le_pow_right (by decide) (by decide))
  | .str x, h => by
    have h' : (PyData.strOk x = true ∧ PyData.strOk (reprText x) = true) ∧ (x.cps.toList.all fun c => decide (c < 16 ^ 8)) = true := by simpa only [okT, Bool.and_eq_true] using h
    exact ⟨by simpa only [PyData.leavesShort] using h'.2, rfl, by simpa only [PyData.shown] using h'.1.2⟩
  | .list _, h => by simp [okT] at h
  | .tuple xs, h => by
    have := okTs_lay xs (by simpa only [okT] using h)
    refine ⟨by simpa only [PyData.leavesShort] using this.1, by simpa only [PyData.showable] using this.2.1, ?_⟩
    simp only [PyData.shown, tupleText]
    exact strOk_app (strOk_app (strOk_str _) (strOk_join (strOk_str _) this.2.2)) (strOk_str _)
  | .dict kvs, h => by
    have := okTk_lay kvs (by simpa only [okT] using h)
    refine ⟨by simpa only [PyData.leavesShort] using this.1, by simpa only [PyData.showable] using this.2.1, ?_⟩
    simp only [PyData.shown, dictText]
    exact strOk_app (strOk_app (strOk_str _) (strOk_join (strOk_str _) this.2.2)) (strOk_str _)
theorem okTs_lay : ∀ xs : List PyData, okTs xs = true → PyData.leavesShortAll 13 xs = true ∧ PyData.showableAll xs = true ∧ ∀ t ∈ PyData.shownAll xs, PyData.strOk t = true
  | [], _ => ⟨rfl, rfl, by intro t ht; simp [PyData.shownAll] at ht⟩
  | x :: xs, h => by
    have h' : okT x = true ∧ okTs xs = true := by simpa only [okTs, Bool.and_eq_true] using h
    obtain ⟨a1, a2, a3⟩ := okT_lay x h'.1
    obtain ⟨b1, b2, b3⟩ := okTs_lay xs h'.2
    refine ⟨by simp only [PyData.leavesShortAll, a1, b1]; rfl, by simp only [PyData.showableAll, a2, b2]; rfl, ?_⟩
    intro t ht
    simp only [PyData.shownAll, List.mem_cons] at ht
    rcases ht with rfl | ht
    · exact a3
    · exact b3 t ht
theorem okTk_lay : ∀ kvs : List (PyData × PyData), okTk kvs = true → PyData.leavesShortKv 13 kvs = true ∧ PyData.showableKv kvs = true ∧ ∀ t ∈ PyData.shownKv kvs, PyData.strOk t = true
  | [], _ => ⟨rfl, rfl, by intro t ht; simp [PyData.shownKv] at ht⟩
  | (k, v) :: r, h => by
    have h' : (okT k = true ∧ okT v = true) ∧ okTk r = true := by simpa only [okTk, Bool.and_eq_true] using h
    obtain ⟨a1, a2, a3⟩ := okT_lay k h'.1.1
    obtain ⟨b1, b2, b3⟩ := okT_lay v h'.1.2
    obtain ⟨c1, c2, c3⟩ := okTk_lay r h'.2
    refine ⟨by simp only [PyData.leavesShortKv, a1, b1, c1]; rfl, by simp only [PyData.showableKv, a2, b2, c2]; rfl, ?_⟩
    intro t ht
    simp only [PyData.shownKv, List.mem_cons] at ht
    rcases ht with rfl | ht
    · exact strOk_app (strOk_app a3 (strOk_str _)) b3
    · exact c3 t ht
end
theorem reprT_go {d : D} {p : PyData} {h : DH} {Q : DK} (e : pyT h 12 d = some p) (disp : isDisplay p = true) (ok : okT p = true) (dep : p.depth ≤ 60) (w : p.weight ≤ 2 ^ 20) (q : Q (.str p.shown) h) : rReprT [d] h Q := by
  obtain ⟨a1, a2, _⟩ := okT_lay p ok
  simp only [rReprT, e]
  exact ⟨disp, a2, dep, PyData.shown_fits (by decide) (Nat.le_refl 13) a1 w, q⟩
theorem pyAllT_ints (h : DH) (n : Nat) : ∀ ns : List Int, pyAll (pyT h (n + 1)) (ns.map D.int) = some (ns.map PyData.int)
  | [] => rfl
  | x :: xs => by
    have := pyAllT_ints h n xs
    simp only [List.map_cons, pyAll, this]
    rfl
theorem pyT_ints (h : DH) (n : Nat) (ns : List Int) : pyT h (n + 2) (.tup (ns.map D.int)) = some (.tuple (ns.map PyData.int)) := by
  show (pyAll (pyT h (n + 1)) (ns.map D.int)).map PyData.tuple = _
  rw [pyAllT_ints]; rfl
theorem okTs_ints : ∀ {ns : List Int}, (∀ x ∈ ns, x.natAbs < 1000000000000) → okTs (ns.map PyData.int) = true
  | [], _ => rfl
  | x :: xs, g => by
    simp only [List.map_cons, okTs, okT, Bool.and_eq_true, decide_eq_true_eq]
    exact ⟨g x List.mem_cons_self, okTs_ints fun y hy => g y (List.mem_cons_of_mem _ hy)⟩
end DL

namespace DL
open PySem PySem.Spec L2
open PyProof.Rows hiding St
/-! ### own classes: fields, methods, making -/
theorem KReps.look {K : PySem.W.Frag} {H : Hp} {f : Str} {d : D} : ∀ {fs : List (Str × D)} {gs : List (Str × V)}, KReps K H fs gs → fs.lookup f = some d → ∃ v, gs.lookup f = some v ∧ Rep K H d v
  | [], _, _, e => by simp at e
  | (g, x) :: fs, gs, r, e => by
    simp only [KReps] at r
    obtain ⟨v, r', rfl, a, b⟩ := r
    by_cases h : (f == g) = true
    · simp only [List.lookup, h] at e ⊢
      cases e
      exact ⟨v, rfl, a⟩
    · have h' : (f == g) = false := by simpa using h
      simp only [List.lookup, h'] at e ⊢
      exact KReps.look b e
theorem KReps.lookN {K : PySem.W.Frag} {H : Hp} {f : Str} : ∀ {fs : List (Str × D)} {gs : List (Str × V)}, KReps K H fs gs → fs.lookup f = none → gs.lookup f = none
  | [], gs, r, _ => by
    have : gs = [] := by simpa [KReps] using r
    subst this; rfl
  | (g, x) :: fs, gs, r, e => by
    simp only [KReps] at r
    obtain ⟨v, r', rfl, a, b⟩ := r
    by_cases h : (f == g) = true
    · simp only [List.lookup, h] at e; cases e
    · have h' : (f == g) = false := by simpa using h
      simp only [List.lookup, h'] at e ⊢
      exact KReps.lookN b e
def putFD (f : Str) (v : D) : List (Str × D) → List (Str × D)
  | [] => [(f, v)]
  | (g, x) :: r => if g = f then (g, v) :: r else (g, x) :: putFD f v r
theorem KReps.putF {K : PySem.W.Frag} {H : Hp} {f : Str} {d : D} {v : V} (q : Rep K H d v) : ∀ {fs : List (Str × D)} {gs : List (Str × V)}, KReps K H fs gs → KReps K H (putFD f d fs) (L2.putF f v gs)
  | [], gs, r => by
    have : gs = [] := by simpa [KReps] using r
    subst this
    simp only [putFD, L2.putF, KReps]
    exact ⟨v, [], rfl, q, rfl⟩
  | (g, x) :: fs, gs, r => by
    simp only [KReps] at r
    obtain ⟨w, r', rfl, a, b⟩ := r
    unfold putFD L2.putF
    by_cases h : g = f
    · rw [if_pos h, if_pos h]
      simp only [KReps]
      exact ⟨v, r', rfl, q, b⟩
    · rw [if_neg h, if_neg h]
      simp only [KReps]
      exact ⟨w, _, rfl, a, KReps.putF q b⟩
theorem KReps.len2 {K : PySem.W.Frag} {H : Hp} {κ : Type} : ∀ {fs : List (κ × D)} {gs : List (κ × V)}, KReps K H fs gs → gs.length = fs.length
  | [], gs, r => by
    have : gs = [] := by simpa [KReps] using r
    subst this; rfl
  | _ :: fs, gs, r => by
    simp only [KReps] at r
    obtain ⟨w, r', rfl, a, b⟩ := r
    simp [KReps.len2 b]
/-- an instance of C among the data -/
def insD (h : DH) (C : Addr) : D → Option (Addr × Addr × List (Str × D))
  | .ref a => match h a with
    | some (.ins C' dx fs) => if C' = C then some (a, dx, fs) else none
    | _ => none
  | _ => none
theorem insD_of {K : PySem.W.Frag} {H : Hp} {h : DH} {C : Addr} {x : D} {v : V} {a dx : Addr} {fs : List (Str × D)} (hr : HR K H h) (e : insD h C x = some (a, dx, fs)) (r : Rep K H x v) : x = .ref a ∧ v = .ref a ∧ h a = some (.ins C dx fs) ∧ ∃ gs, H a = some (.ins C dx gs) ∧ KReps K H fs gs := by
  unfold insD at e
  split at e
  · rename_i b
    split at e
    · rename_i C' dx' fs' hb
      split at e
      · rename_i hC
        cases e
        subst hC
        obtain ⟨u, hu, w⟩ := hr a _ hb
        cases u with
        | ins C1 dx1 gs =>
          obtain ⟨rfl, rfl, kr⟩ := w
          exact ⟨rfl, rep_ref r, hb, gs, hu, kr⟩
        | _ => exact w.elim
      · cases e
    · cases e
  · cases e
theorem insD_ref {h : DH} {C a dx : Addr} {fs : List (Str × D)} (e : h a = some (.ins C dx fs)) : insD h C (.ref a) = some (a, dx, fs) := by simp [insD, e]
/-- o.f -/
def dFld (C : Addr) (f : Str) (ta : DTE) : DTE := fun σ h Q => ta σ h fun x h1 => match insD h1 C x with
  | some (_, _, fs) => match fs.lookup f with
    | some d => Q d h1
    | none => False
  | none => False
theorem de_fld {X : Cx} {C : Addr} {e : Expr} {f : Str} {pos : Pos} {ta : DTE} (c : Cls X.K C) (n : NoAttr X.K C f) (he : DE X e ta) (hb : attributeBase e f X.env (eval e X.env) = eval e X.env := by rfl) : DE X (.Attribute e f pos) (dFld C f ta) :=
  (pe_fld he hb).imp fun σ H Q ⟨σD, h, QD, rs, q, p⟩ => by
    refine ⟨σD, h, _, rs, q, fun d1 h1 v1 H1 q1 rs1 r1 k1 => ?_⟩
    split at q1
    · rename_i a dx fs ei
      split at q1
      · rename_i d ed
        obtain ⟨rfl, rfl, ha, gs, hH, kr⟩ := insD_of rs1.hr ei r1
        obtain ⟨v, hv, rv⟩ := kr.look ed
        exact ⟨a, C, dx, gs, v, rfl, hH, c, n, hv, p d h1 v H1 q1 rs1 rv k1⟩
      · exact q1.elim
    · exact q1.elim
/-- o.f := v, told of values -/
def rPutF (C : Addr) (f : Str) (x v : D) (h : DH) (R : DH → Prop) : Prop := match insD h C x with
  | some (a, dx, fs) => fs.length < 1000 ∧ R (updD h a (.ins C dx (putFD f v fs)))
  | none => False
def dFldS (C : Addr) (f : Str) (to te : DTE) : DTS := fun D σ h => te σ h fun v h1 => to σ h1 fun x h2 => rPutF C f x v h2 fun h3 => D.nx σ h3
theorem ds_fld {X : Cx} {C : Addr} {o value : Expr} {f : Str} {pos' pos : Pos} {to te : DTE} (c : Cls X.K C) (n : NoAttr X.K C f) (ho : DE X o to) (hv : DE X value te) (hs : swapsWith value (some (.Attribute o f pos')) pos.line X.env = pure false := by rfl) :
    DSt X (.Assign [.Attribute o f pos'] value pos) (dFldS C f to te) := (ps_fld ho hv hs).imp fun Ds σ H ⟨σD, h, DD, rs, q, p⟩ => by
  refine ⟨σD, h, _, rs, q, fun d1 h1 v1 H1 q1 rs1 r1 k1 => ⟨σD, h1, _, rs1, q1, fun d2 h2 v2 H2 q2 rs2 r2 k2 => ?_⟩⟩
  unfold rPutF at q2
  split at q2
  · rename_i a dx fs ei
    obtain ⟨ln, q2⟩ := q2
    obtain ⟨rfl, rfl, ha, gs, hH, kr⟩ := insD_of rs2.hr ei r2
    have rv := r1.mono (k2.tup rs1.hr)
    exact ⟨a, C, dx, gs, rfl, hH, c, n, by rw [kr.len2]; exact ln, p.nx σD _ σ _ q2 (rs2.put ha (show HOR X.K H2 (.ins C dx (putFD f d1 fs)) (.ins C dx (L2.putF f v1 gs)) from ⟨rfl, rfl, kr.putF rv⟩)) (k1.trans (k2.trans (.put ha)))⟩
  · exact q2.elim
/-- a target o.f -/
theorem pg_fldA {X : Cx} {C : Addr} {o : Expr} {f : Str} {pos : Pos} {to : TE} (c : Cls X.K C) (n : NoAttr X.K C f) (ho : PE X o to) :
    PG X (.Attribute o f pos) (fun v σ H Q => to σ H fun x H1 => ∃ a dx fs, x = .ref a ∧ H1 a = some (.ins C dx fs) ∧ fs.length < 1000 ∧ Q σ (upd H1 a (.ins C dx (L2.putF f v fs)))) := by
  refine ⟨fun pins s σ H v u Q I r h => ?_⟩
  rw [show assign (.Attribute o f pos) X.env u = (do
      let ov ← holding [u] (eval o X.env)
      standAt pos.atName
      holding [u, ov] (setAttr ov f u)
      release [u, ov] []) from rfl]
  refine wpAny_bind (wpAny_holding (thn (ho.run pins s σ H _ I h) fun ov s1 ⟨x, H1, I1, r1, a, dx, fs, ex, ea, l, q1⟩ => ?_))
  subst ex
  obtain rfl : ov = Value.ref a := r1
  refine wpAny_bind (wpAny_standAt (wpAny_bind (wpAny_holding (setattr_ok I1 ea c n l r fun s3 I3 => ?_))))
  exact wpAny_release ⟨σ, _, I3, q1⟩
def dgFld (C : Addr) (f : Str) (to : DTE) : DTG := fun v σ h Q => to σ h fun x h1 => rPutF C f x v h1 fun h2 => Q σ h2
theorem dg_fld {X : Cx} {C : Addr} {o : Expr} {f : Str} {pos : Pos} {to : DTE} (c : Cls X.K C) (n : NoAttr X.K C f) (ho : DE X o to) : DG X (.Attribute o f pos) [] (dgFld C f to) := (pg_fldA c n ho).imp fun v σ H Q ⟨d, σD, h, QD, rs, r, q, p⟩ => by
  refine ⟨σD, h, _, rs, q, fun d2 h2 v2 H2 q2 rs2 r2 k2 => ?_⟩
  unfold rPutF at q2
  split at q2
  · rename_i a dx fs ei
    obtain ⟨ln, q2⟩ := q2
    obtain ⟨rfl, rfl, ha, gs, hH, kr⟩ := insD_of rs2.hr ei r2
    have rv := r.mono (k2.tup rs.hr)
    exact ⟨a, dx, gs, rfl, hH, by rw [kr.len2]; exact ln, p σD _ σ _ q2 (rs2.put ha (show HOR X.K H2 (.ins C dx (putFD f d fs)) (.ins C dx (L2.putF f v gs)) from ⟨rfl, rfl, kr.putF rv⟩)) (k2.trans (.put ha)) (.refl _ _)⟩
  · exact q2.elim
/-- o.m(..) -/
def dMeth (C : Addr) (m : Str) (sp : DSp) (ta : DTE) (t : DTA) : DTE := fun σ h Q => ta σ h fun x h1 => (∃ a dx fs, insD h1 C x = some (a, dx, fs) ∧ fs.lookup m = none) ∧ t σ h1 fun ds h2 => sp (x :: ds) h2 Q
structure KnM (P : Program) (w : World) (K : PySem.W.Frag) (mg : Str → Option Value) (base : Heap) (C : Addr) (m : Str) (k : Nat) (sp : DSp) : Prop where
  ex : ∃ (a : Addr) (fd : FuncData) (ps : List Str), FnOk P w K mg base CX0 k a fd ps (liftF K sp) ∧ Meth K C m a ∧ Binds K fd ps []
theorem KnM.mono {P : Program} {w : World} {K : PySem.W.Frag} {mg : Str → Option Value} {base : Heap} {C : Addr} {m : Str} {j k : Nat} {sp : DSp} (G : KnM P w K mg base C m j sp) (h : j ≤ k) : KnM P w K mg base C m k sp :=
  let ⟨a, fd, ps, F, b, c⟩ := G.ex
  ⟨a, fd, ps, F.mono h, b, c⟩
theorem le_meth {K : PySem.W.Frag} {C : Addr} {m : Str} {sp : DSp} {E : XK} {ta : DTE} {t : DTA} (σ : St) (H : Hp) (Q : VK) (q : LE K (dMeth C m sp ta t) σ H Q) : tMeth C m (liftF K sp) [] E (LE K ta) (LA K t) σ H Q := by
  obtain ⟨σD, h, QD, rs, q, p⟩ := q
  refine ⟨σD, h, _, rs, q, fun d1 h1 v1 H1 ⟨⟨a, dx, fs, ei, nm⟩, q1⟩ rs1 r1 k1 => ?_⟩
  obtain ⟨rfl, rfl, ha, gs, hH, kr⟩ := insD_of rs1.hr ei r1
  refine ⟨a, dx, gs, rfl, hH, kr.lookN nm, σD, h1, _, rs1, q1, fun ds h2 vs H2 q2 rs2 r2 k2 => ?_⟩
  show liftF K sp (V.ref a :: (vs ++ [])) H2 Q E
  rw [List.append_nil]
  refine ⟨D.ref a :: ds, h2, QD, ?_, rs2.hr, q2, fun d h' v H' q3 hr3 r3 k3 => p d h' v H' q3 ⟨rs2.sl.mono (k3.tup rs2.hr), hr3⟩ r3 (k1.trans (k2.trans k3))⟩
  unfold Reps
  exact ⟨_, _, rfl, by simp [Rep], r2⟩
theorem de_omet {X : Cx} {C : Addr} {m : Str} {o e : Expr} {es : List Expr} {ta : DTE} {t : DTA} {apos pos : Pos} {sp : DSp} {k : Nat} {pl : Sem Bool} (c : Cls X.K C) (G : KnM X.prog X.w X.K X.mg X.base C m k sp) (hr : Room k X.A) (ho : DE X o ta) (ha : DA X (e :: es) t)
    (hst : starEach (e :: es) X.env = (false, eval e X.env) :: starEach es X.env := by rfl) (hpl : (backTo pos (starEach es X.env)).any (·.1) = false := by rfl)
    (ht : eval (.Call (.Attribute o m apos) (e :: es) [] pos) X.env = (do
      let ov ← eval o X.env
      standAt apos.atName
      let (f, first) ← holding [ov] (getMethod ov m pl)
      callWith pos f first (backTo pos (starEach (e :: es) X.env)) (backToKw pos (keywordEach [] X.env))) := by rfl) : DE X (.Call (.Attribute o m apos) (e :: es) [] pos) (dMeth C m sp ta t) := by
  obtain ⟨a, fd, ps, F, hm, b⟩ := G.ex
  exact (pe_meth (pl := pl) ho c hm F hr b .nil pass0 ha hst hpl ht).imp le_meth
theorem de_omet0 {X : Cx} {C : Addr} {m : Str} {o : Expr} {ta : DTE} {apos pos : Pos} {sp : DSp} {k : Nat} {pl : Sem Bool} (c : Cls X.K C) (G : KnM X.prog X.w X.K X.mg X.base C m k sp) (hr : Room k X.A) (ho : DE X o ta)
    (ht : eval (.Call (.Attribute o m apos) [] [] pos) X.env = (do
      let ov ← eval o X.env
      standAt apos.atName
      let (f, first) ← holding [ov] (getMethod ov m pl)
      callWith pos f first (backTo pos (starEach [] X.env)) (backToKw pos (keywordEach [] X.env))) := by rfl) : DE X (.Call (.Attribute o m apos) [] [] pos) (dMeth C m sp ta dNil) := by
  obtain ⟨a, fd, ps, F, hm, b⟩ := G.ex
  refine (pe_meth0 (pl := pl) (E := fun _ _ _ => False) ho c hm F hr b .nil pass0 ht).imp fun σ H Q ⟨σD, h, QD, rs, q, p⟩ => ?_
  refine ⟨σD, h, _, rs, q, fun d1 h1 v1 H1 ⟨⟨a, dx, fs, ei, nm⟩, q1⟩ rs1 r1 k1 => ?_⟩
  obtain ⟨rfl, rfl, ha, gs, hH, kr⟩ := insD_of rs1.hr ei r1
  refine ⟨a, dx, gs, rfl, hH, kr.lookN nm, ?_⟩
  show liftF X.K sp [V.ref a] H1 Q (fun _ _ _ => False)
  refine ⟨[D.ref a], h1, QD, ?_, rs1.hr, q1, fun d h' v H' q3 hr3 r3 k3 => p d h' v H' q3 ⟨rs1.sl.mono (k3.tup rs1.hr), hr3⟩ r3 (k1.trans k3)⟩
  unfold Reps
  exact ⟨_, _, rfl, by simp [Rep], by simp [Reps]⟩
/-- C(..) -/
def dMake (C : Addr) (sp : DSp) (t : DTA) : DTE := fun σ h Q => t σ h fun ds h1 => ∀ x dx, h1 x = none → sp (.ref x :: ds) (updD h1 x (.ins C dx [])) fun v h2 => v = .non ∧ Q (.ref x) h2
structure KnC (P : Program) (w : World) (K : PySem.W.Frag) (mg : Str → Option Value) (base : Heap) (C : Addr) (x : Str) (k : Nat) (sp : DSp) : Prop where
  ex : ∃ (a : Addr) (fd : FuncData) (ps : List Str), FnOk P w K mg base CX0 k a fd ps (liftF K sp) ∧ Mk K C a ∧ Binds K fd ps [] ∧ mg x = some (.ref C)
theorem KnC.mono {P : Program} {w : World} {K : PySem.W.Frag} {mg : Str → Option Value} {base : Heap} {C : Addr} {x : Str} {j k : Nat} {sp : DSp} (G : KnC P w K mg base C x j sp) (h : j ≤ k) : KnC P w K mg base C x k sp :=
  let ⟨a, fd, ps, F, b, c⟩ := G.ex
  ⟨a, fd, ps, F.mono h, b, c⟩
theorem le_make {K : PySem.W.Frag} {C : Addr} {sp : DSp} {E : XK} {t : DTA} (σ : St) (H : Hp) (Q : VK) (q : LE K (dMake C sp t) σ H Q) : tMake C (liftF K sp) [] E (LA K t) σ H Q := by
  obtain ⟨σD, h, QD, rs, q, p⟩ := q
  refine ⟨σD, h, _, rs, q, fun ds h1 vs H1 q1 rs1 r1 k1 x dx nx ndx ne => ?_⟩
  show liftF K sp (V.ref x :: (vs ++ [])) _ _ E
  rw [List.append_nil]
  have rsA : RS K σD h1 σ (upd H1 dx (.own x)) := rs1.hid ndx
  have nx2 : (upd H1 dx (.own x)) x = none := by rw [upd_ne ne.symm]; exact nx
  have rsB : RS K σD (updD h1 x (.ins C dx [])) σ (upd (upd H1 dx (.own x)) x (.ins C dx [])) := rsA.new nx2 (o := .ins C dx []) (show HOR K _ (.ins C dx []) (.ins C dx []) from ⟨rfl, rfl, rfl⟩)
  have kA : Keep h1 H1 h1 (upd H1 dx (.own x)) := .hid ndx
  have kB : Keep h1 (upd H1 dx (.own x)) (updD h1 x (.ins C dx [])) (upd (upd H1 dx (.own x)) x (.ins C dx [])) := .new nx2
  have kAB := kA.trans kB
  refine ⟨D.ref x :: ds, _, _, ?_, rsB.hr, q1 x dx (rs1.hr.none nx), fun d h' v H' ⟨q3, q4⟩ hr3 r3 k3 => ?_⟩
  · unfold Reps
    exact ⟨_, _, rfl, by simp [Rep], r1.mono (kAB.tup rs1.hr)⟩
  · subst q3
    refine ⟨by simpa [Rep] using r3, p _ h' _ H' q4 ⟨rsB.sl.mono (k3.tup rsB.hr), hr3⟩ (by simp [Rep]) (k1.trans (kAB.trans k3))⟩
theorem de_make {X : Cx} {C : Addr} {x : Str} {e : Expr} {es : List Expr} {t : DTA} {p pos : Pos} {sp : DSp} {k : Nat} (G : KnC X.prog X.w X.K X.mg X.base C x k sp) (hr : Room (k + 1) X.A) (ha : DA X (e :: es) t) (hg : Gl X x := by rfl)
    (hdb : (x == ("__debug__" : Str)) = false := by decide) (he : starEach (e :: es) X.env = (false, eval e X.env) :: starEach es X.env := by rfl) (hpl : (backTo pos (starEach es X.env)).any (·.1) = false := by rfl) :
    DE X (.Call (.Name x p) (e :: es) [] pos) (dMake C sp t) := by
  obtain ⟨a, fd, ps, F, M, b, hm⟩ := G.ex
  exact (pe_make M F hr hg hm b .nil pass0 ha hdb he hpl).imp le_make
end DL

namespace DL
open PySem PySem.Spec L2
open PyProof.Rows hiding St
abbrev gyT1 (h : Heap) (o1 : Obj) : Heap := (h.push o1).push { cls := .type "tuple", data := .seq #[.ref h.objs.size] }
abbrev gyO1 (h : Heap) (o1 : Obj) : Heap := (gyT1 h o1).push { cls := .type "tuple", data := .seq #[.none] }
abbrev gyZ1 (h : Heap) (o1 : Obj) : Heap := (gyO1 h o1).push { cls := .type "zip", data := .fields #[.none, .bool false, .bool false, .ref (h.push o1).objs.size, .ref (gyT1 h o1).objs.size] }
theorem gy_tc1 (v1 : Value) : checkTypeCall "zip" ⟨[v1], []⟩ = pure () := by kernel_rfl
theorem gy_nc1 (v1 : Value) : checkBuiltinCall "zip.__new__" ⟨[.type "zip", v1], []⟩ = pure () := by kernel_rfl
theorem gy_oi1 (obj v1 : Value) : argsOk "object.__init__" ⟨[obj, v1], []⟩ := by unfold argsOk; kernel_rfl
theorem gy_meets1 {v1 : Value} {o1 : Obj} {H1 : Heap → Prop} (B1 : Begins v1 o1 H1) :
    Meets (Builtin.«zip.__new__» ⟨[.type "zip", v1], []⟩) (fun _ R s => H1 s.heap ∧
      R (.ok (.ret (.ref (gyO1 s.heap o1).objs.size))) { s with heap := gyZ1 s.heap o1 }) :=
  .of_wp fun prog w A R s h => by
    obtain ⟨hp, g, d, tk, os⟩ := s; obtain ⟨h1, h⟩ := h
    have hsub := sub_zip
    have q1 : ∀ {A' : Around} {E : Value → Shared → Prop} {Q : Value → Shared → Prop}, Q (.ref hp.objs.size) ⟨(hp.push o1), g, d, tk, os⟩ → wpAny (model prog w) A' (pyIter v1) Q E ⟨hp, g, d, tk, os⟩ :=
      fun q => B1.iter prog w _ _ ⟨hp, g, d, tk, os⟩ _ (B1.keeps _ _ h1 fun b o' e => e) q
    wp_walk using q1
    exact ⟨_, rfl, h⟩
theorem gy_begins1 {prog : Program} {w : World} {A : Around} {E : Value → Shared → Prop} {s : Shared} {v1 : Value} {o1 : Obj} {H1 : Heap → Prop} {Q : Value → Shared → Prop} (B1 : Begins v1 o1 H1) (h1 : H1 s.heap)
    (h : ∀ h', IsZip h' (s.heap.objs.size + 3) (s.heap.objs.size + 1) (s.heap.objs.size + 2) .none → IsTupA h' (s.heap.objs.size + 1) #[.ref s.heap.objs.size] → IsTupA h' (s.heap.objs.size + 2) #[.none] → h'.get? s.heap.objs.size = some o1 → h'.objs.size = s.heap.objs.size + 4 →
      (∀ c o, s.heap.get? c = some o → h'.get? c = some o) → Q (.ref (s.heap.objs.size + 3)) { s with heap := h' }) :
    wpAny (model prog w) A (call (.type "zip") [v1]) Q E s := by
  refine callType_new F.called_zip (by decide) (gy_tc1 _) (gy_nc1 _) (fun obj => gy_oi1 obj _) F.entry_zip_new
    (gy_meets1 B1) ⟨h1, ?_⟩
  have z1 : (s.heap.push o1).objs.size = s.heap.objs.size + 1 := by rw [Heap.size_push]
  have zT : (gyT1 s.heap o1).objs.size = s.heap.objs.size + 2 := by rw [Heap.size_push, z1]
  have zO : (gyO1 s.heap o1).objs.size = s.heap.objs.size + 3 := by rw [Heap.size_push, zT]
  have zZ : (gyZ1 s.heap o1).objs.size = s.heap.objs.size + 4 := by rw [Heap.size_push, zO]
  have gZ : (gyZ1 s.heap o1).get? (gyO1 s.heap o1).objs.size = some { cls := .type "zip", data := .fields #[.none, .bool false, .bool false, .ref (s.heap.push o1).objs.size, .ref (gyT1 s.heap o1).objs.size] } := Heap.get?_push_size _ rfl
  have gO : (gyZ1 s.heap o1).get? (gyT1 s.heap o1).objs.size = some { cls := .type "tuple", data := .seq #[.none] } := Heap.get?_push_of_some _ (Heap.get?_push_size _ rfl)
  have gT : (gyZ1 s.heap o1).get? (s.heap.push o1).objs.size = some { cls := .type "tuple", data := .seq #[.ref s.heap.objs.size] } := Heap.get?_push_of_some _ (Heap.get?_push_of_some _ (Heap.get?_push_size _ rfl))
  have g1 : (gyZ1 s.heap o1).get? s.heap.objs.size = some o1 := Heap.get?_push_of_some _ (Heap.get?_push_of_some _ (Heap.get?_push_of_some _ (Heap.get?_push_size _ B1.free)))
  rw [zO, zT, z1] at gZ
  rw [zT] at gO
  rw [z1] at gT
  show _ ∧ _
  rw [zO]
  exact ⟨⟨_, gZ, rfl⟩, h _ gZ gT gO g1 zZ fun c o e => Heap.get?_push_of_some _ (Heap.get?_push_of_some _ (Heap.get?_push_of_some _ (Heap.get?_push_of_some _ e)))⟩
abbrev gyT2 (h : Heap) (o1 o2 : Obj) : Heap := ((h.push o1).push o2).push { cls := .type "tuple", data := .seq #[.ref h.objs.size, .ref (h.push o1).objs.size] }
abbrev gyO2 (h : Heap) (o1 o2 : Obj) : Heap := (gyT2 h o1 o2).push { cls := .type "tuple", data := .seq #[.none, .none] }
abbrev gyZ2 (h : Heap) (o1 o2 : Obj) : Heap := (gyO2 h o1 o2).push { cls := .type "zip", data := .fields #[.none, .bool false, .bool false, .ref ((h.push o1).push o2).objs.size, .ref (gyT2 h o1 o2).objs.size] }
theorem gy_tc2 (v1 v2 : Value) : checkTypeCall "zip" ⟨[v1, v2], []⟩ = pure () := by kernel_rfl
theorem gy_nc2 (v1 v2 : Value) : checkBuiltinCall "zip.__new__" ⟨[.type "zip", v1, v2], []⟩ = pure () := by kernel_rfl
theorem gy_oi2 (obj v1 v2 : Value) : argsOk "object.__init__" ⟨[obj, v1, v2], []⟩ := by unfold argsOk; kernel_rfl
theorem gy_meets2 {v1 v2 : Value} {o1 o2 : Obj} {H1 H2 : Heap → Prop} (B1 : Begins v1 o1 H1) (B2 : Begins v2 o2 H2) :
    Meets (Builtin.«zip.__new__» ⟨[.type "zip", v1, v2], []⟩) (fun _ R s => (H1 s.heap ∧ H2 s.heap) ∧
      R (.ok (.ret (.ref (gyO2 s.heap o1 o2).objs.size))) { s with heap := gyZ2 s.heap o1 o2 }) :=
  .of_wp fun prog w A R s h => by
    obtain ⟨hp, g, d, tk, os⟩ := s; obtain ⟨⟨h1, h2⟩, h⟩ := h
    have hsub := sub_zip
    have q1 : ∀ {A' : Around} {E : Value → Shared → Prop} {Q : Value → Shared → Prop}, Q (.ref hp.objs.size) ⟨(hp.push o1), g, d, tk, os⟩ → wpAny (model prog w) A' (pyIter v1) Q E ⟨hp, g, d, tk, os⟩ :=
      fun q => B1.iter prog w _ _ ⟨hp, g, d, tk, os⟩ _ (B1.keeps _ _ h1 fun b o' e => e) q
    have q2 : ∀ {A' : Around} {E : Value → Shared → Prop} {Q : Value → Shared → Prop}, Q (.ref (hp.push o1).objs.size) ⟨((hp.push o1).push o2), g, d, tk, os⟩ → wpAny (model prog w) A' (pyIter v2) Q E ⟨(hp.push o1), g, d, tk, os⟩ :=
      fun q => B2.iter prog w _ _ ⟨(hp.push o1), g, d, tk, os⟩ _ (B2.keeps _ _ h2 fun b o' e => (Heap.get?_push_of_some _ e)) q
    wp_walk using q1, q2
    exact ⟨_, rfl, h⟩
theorem gy_begins2 {prog : Program} {w : World} {A : Around} {E : Value → Shared → Prop} {s : Shared} {v1 v2 : Value} {o1 o2 : Obj} {H1 H2 : Heap → Prop} {Q : Value → Shared → Prop} (B1 : Begins v1 o1 H1) (B2 : Begins v2 o2 H2) (h1 : H1 s.heap) (h2 : H2 s.heap)
    (h : ∀ h', IsZip h' (s.heap.objs.size + 4) (s.heap.objs.size + 2) (s.heap.objs.size + 3) .none → IsTupA h' (s.heap.objs.size + 2) #[.ref s.heap.objs.size, .ref (s.heap.objs.size + 1)] → IsTupA h' (s.heap.objs.size + 3) #[.none, .none] → h'.get? s.heap.objs.size = some o1 → h'.get? (s.heap.objs.size + 1) = some o2 → h'.objs.size = s.heap.objs.size + 5 →
      (∀ c o, s.heap.get? c = some o → h'.get? c = some o) → Q (.ref (s.heap.objs.size + 4)) { s with heap := h' }) :
    wpAny (model prog w) A (call (.type "zip") [v1, v2]) Q E s := by
  refine callType_new F.called_zip (by decide) (gy_tc2 _ _) (gy_nc2 _ _) (fun obj => gy_oi2 obj _ _) F.entry_zip_new
    (gy_meets2 B1 B2) ⟨⟨h1, h2⟩, ?_⟩
  have z1 : (s.heap.push o1).objs.size = s.heap.objs.size + 1 := by rw [Heap.size_push]
  have z2 : ((s.heap.push o1).push o2).objs.size = s.heap.objs.size + 2 := by rw [Heap.size_push, z1]
  have zT : (gyT2 s.heap o1 o2).objs.size = s.heap.objs.size + 3 := by rw [Heap.size_push, z2]
  have zO : (gyO2 s.heap o1 o2).objs.size = s.heap.objs.size + 4 := by rw [Heap.size_push, zT]
  have zZ : (gyZ2 s.heap o1 o2).objs.size = s.heap.objs.size + 5 := by rw [Heap.size_push, zO]
  have gZ : (gyZ2 s.heap o1 o2).get? (gyO2 s.heap o1 o2).objs.size = some { cls := .type "zip", data := .fields #[.none, .bool false, .bool false, .ref ((s.heap.push o1).push o2).objs.size, .ref (gyT2 s.heap o1 o2).objs.size] } := Heap.get?_push_size _ rfl
  have gO : (gyZ2 s.heap o1 o2).get? (gyT2 s.heap o1 o2).objs.size = some { cls := .type "tuple", data := .seq #[.none, .none] } := Heap.get?_push_of_some _ (Heap.get?_push_size _ rfl)
  have gT : (gyZ2 s.heap o1 o2).get? ((s.heap.push o1).push o2).objs.size = some { cls := .type "tuple", data := .seq #[.ref s.heap.objs.size, .ref (s.heap.push o1).objs.size] } := Heap.get?_push_of_some _ (Heap.get?_push_of_some _ (Heap.get?_push_size _ rfl))
  have g1 : (gyZ2 s.heap o1 o2).get? s.heap.objs.size = some o1 := Heap.get?_push_of_some _ (Heap.get?_push_of_some _ (Heap.get?_push_of_some _ (Heap.get?_push_of_some _ (Heap.get?_push_size _ B1.free))))
  have g2 : (gyZ2 s.heap o1 o2).get? (s.heap.push o1).objs.size = some o2 := Heap.get?_push_of_some _ (Heap.get?_push_of_some _ (Heap.get?_push_of_some _ (Heap.get?_push_size _ B2.free)))
  rw [zO, zT, z2] at gZ
  rw [zT] at gO
  rw [z2, z1] at gT
  rw [z1] at g2
  show _ ∧ _
  rw [zO]
  exact ⟨⟨_, gZ, rfl⟩, h _ gZ gT gO g1 g2 zZ fun c o e => Heap.get?_push_of_some _ (Heap.get?_push_of_some _ (Heap.get?_push_of_some _ (Heap.get?_push_of_some _ (Heap.get?_push_of_some _ e))))⟩
abbrev gyT3 (h : Heap) (o1 o2 o3 : Obj) : Heap := (((h.push o1).push o2).push o3).push { cls := .type "tuple", data := .seq #[.ref h.objs.size, .ref (h.push o1).objs.size, .ref ((h.push o1).push o2).objs.size] }
abbrev gyO3 (h : Heap) (o1 o2 o3 : Obj) : Heap := (gyT3 h o1 o2 o3).push { cls := .type "tuple", data := .seq #[.none, .none, .none] }
abbrev gyZ3 (h : Heap) (o1 o2 o3 : Obj) : Heap := (gyO3 h o1 o2 o3).push { cls := .type "zip", data := .fields #[.none, .bool false, .bool false, .ref (((h.push o1).push o2).push o3).objs.size, .ref (gyT3 h o1 o2 o3).objs.size] }
theorem gy_tc3 (v1 v2 v3 : Value) : checkTypeCall "zip" ⟨[v1, v2, v3], []⟩ = pure () := by kernel_rfl
theorem gy_nc3 (v1 v2 v3 : Value) : checkBuiltinCall "zip.__new__" ⟨[.type "zip", v1, v2, v3], []⟩ = pure () := by kernel_rfl
theorem gy_oi3 (obj v1 v2 v3 : Value) : argsOk "object.__init__" ⟨[obj, v1, v2, v3], []⟩ := by unfold argsOk; kernel_rfl
theorem gy_meets3 {v1 v2 v3 : Value} {o1 o2 o3 : Obj} {H1 H2 H3 : Heap → Prop} (B1 : Begins v1 o1 H1) (B2 : Begins v2 o2 H2) (B3 : Begins v3 o3 H3) :
    Meets (Builtin.«zip.__new__» ⟨[.type "zip", v1, v2, v3], []⟩) (fun _ R s => (H1 s.heap ∧ H2 s.heap ∧ H3 s.heap) ∧
      R (.ok (.ret (.ref (gyO3 s.heap o1 o2 o3).objs.size))) { s with heap := gyZ3 s.heap o1 o2 o3 }) :=
  .of_wp fun prog w A R s h => by
    obtain ⟨hp, g, d, tk, os⟩ := s; obtain ⟨⟨h1, h2, h3⟩, h⟩ := h
    have hsub := sub_zip
    have q1 : ∀ {A' : Around} {E : Value → Shared → Prop} {Q : Value → Shared → Prop}, Q (.ref hp.objs.size) ⟨(hp.push o1), g, d, tk, os⟩ → wpAny (model prog w) A' (pyIter v1) Q E ⟨hp, g, d, tk, os⟩ :=
      fun q => B1.iter prog w _ _ ⟨hp, g, d, tk, os⟩ _ (B1.keeps _ _ h1 fun b o' e => e) q
    have q2 : ∀ {A' : Around} {E : Value → Shared → Prop} {Q : Value → Shared → Prop}, Q (.ref (hp.push o1).objs.size) ⟨((hp.push o1).push o2), g, d, tk, os⟩ → wpAny (model prog w) A' (pyIter v2) Q E ⟨(hp.push o1), g, d, tk, os⟩ :=
      fun q => B2.iter prog w _ _ ⟨(hp.push o1), g, d, tk, os⟩ _ (B2.keeps _ _ h2 fun b o' e => (Heap.get?_push_of_some _ e)) q
    have q3 : ∀ {A' : Around} {E : Value → Shared → Prop} {Q : Value → Shared → Prop}, Q (.ref ((hp.push o1).push o2).objs.size) ⟨(((hp.push o1).push o2).push o3), g, d, tk, os⟩ → wpAny (model prog w) A' (pyIter v3) Q E ⟨((hp.push o1).push o2), g, d, tk, os⟩ :=
      fun q => B3.iter prog w _ _ ⟨((hp.push o1).push o2), g, d, tk, os⟩ _ (B3.keeps _ _ h3 fun b o' e => (Heap.get?_push_of_some _ (Heap.get?_push_of_some _ e))) q
    wp_walk using q1, q2, q3
    exact ⟨_, rfl, h⟩
theorem gy_begins3 {prog : Program} {w : World} {A : Around} {E : Value → Shared → Prop} {s : Shared} {v1 v2 v3 : Value} {o1 o2 o3 : Obj} {H1 H2 H3 : Heap → Prop} {Q : Value → Shared → Prop} (B1 : Begins v1 o1 H1) (B2 : Begins v2 o2 H2) (B3 : Begins v3 o3 H3) (h1 : H1 s.heap) (h2 : H2 s.heap) (h3 : H3 s.heap)
    (h : ∀ h', IsZip h' (s.heap.objs.size + 5) (s.heap.objs.size + 3) (s.heap.objs.size + 4) .none → IsTupA h' (s.heap.objs.size + 3) #[.ref s.heap.objs.size, .ref (s.heap.objs.size + 1), .ref (s.heap.objs.size + 2)] → IsTupA h' (s.heap.objs.size + 4) #[.none, .none, .none] → h'.get? s.heap.objs.size = some o1 → h'.get? (s.heap.objs.size + 1) = some o2 → h'.get? (s.heap.objs.size + 2) = some o3 → h'.objs.size = s.heap.objs.size + 6 →
      (∀ c o, s.heap.get? c = some o → h'.get? c = some o) → Q (.ref (s.heap.objs.size + 5)) { s with heap := h' }) :
    wpAny (model prog w) A (call (.type "zip") [v1, v2, v3]) Q E s := by
  refine callType_new F.called_zip (by decide) (gy_tc3 _ _ _) (gy_nc3 _ _ _) (fun obj => gy_oi3 obj _ _ _) F.entry_zip_new
    (gy_meets3 B1 B2 B3) ⟨⟨h1, h2, h3⟩, ?_⟩
  have z1 : (s.heap.push o1).objs.size = s.heap.objs.size + 1 := by rw [Heap.size_push]
  have z2 : ((s.heap.push o1).push o2).objs.size = s.heap.objs.size + 2 := by rw [Heap.size_push, z1]
  have z3 : (((s.heap.push o1).push o2).push o3).objs.size = s.heap.objs.size + 3 := by rw [Heap.size_push, z2]
  have zT : (gyT3 s.heap o1 o2 o3).objs.size = s.heap.objs.size + 4 := by rw [Heap.size_push, z3]
  have zO : (gyO3 s.heap o1 o2 o3).objs.size = s.heap.objs.size + 5 := by rw [Heap.size_push, zT]
  have zZ : (gyZ3 s.heap o1 o2 o3).objs.size = s.heap.objs.size + 6 := by rw [Heap.size_push, zO]
  have gZ : (gyZ3 s.heap o1 o2 o3).get? (gyO3 s.heap o1 o2 o3).objs.size = some { cls := .type "zip", data := .fields #[.none, .bool false, .bool false, .ref (((s.heap.push o1).push o2).push o3).objs.size, .ref (gyT3 s.heap o1 o2 o3).objs.size] } := Heap.get?_push_size _ rfl
  have gO : (gyZ3 s.heap o1 o2 o3).get? (gyT3 s.heap o1 o2 o3).objs.size = some { cls := .type "tuple", data := .seq #[.none, .none, .none] } := Heap.get?_push_of_some _ (Heap.get?_push_size _ rfl)
  have gT : (gyZ3 s.heap o1 o2 o3).get? (((s.heap.push o1).push o2).push o3).objs.size = some { cls := .type "tuple", data := .seq #[.ref s.heap.objs.size, .ref (s.heap.push o1).objs.size, .ref ((s.heap.push o1).push o2).objs.size] } := Heap.get?_push_of_some _ (Heap.get?_push_of_some _ (Heap.get?_push_size _ rfl))
  have g1 : (gyZ3 s.heap o1 o2 o3).get? s.heap.objs.size = some o1 := Heap.get?_push_of_some _ (Heap.get?_push_of_some _ (Heap.get?_push_of_some _ (Heap.get?_push_of_some _ (Heap.get?_push_of_some _ (Heap.get?_push_size _ B1.free)))))
  have g2 : (gyZ3 s.heap o1 o2 o3).get? (s.heap.push o1).objs.size = some o2 := Heap.get?_push_of_some _ (Heap.get?_push_of_some _ (Heap.get?_push_of_some _ (Heap.get?_push_of_some _ (Heap.get?_push_size _ B2.free))))
  have g3 : (gyZ3 s.heap o1 o2 o3).get? ((s.heap.push o1).push o2).objs.size = some o3 := Heap.get?_push_of_some _ (Heap.get?_push_of_some _ (Heap.get?_push_of_some _ (Heap.get?_push_size _ B3.free)))
  rw [zO, zT, z3] at gZ
  rw [zT] at gO
  rw [z3, z2, z1] at gT
  rw [z1] at g2
  rw [z2] at g3
  show _ ∧ _
  rw [zO]
  exact ⟨⟨_, gZ, rfl⟩, h _ gZ gT gO g1 g2 g3 zZ fun c o e => Heap.get?_push_of_some _ (Heap.get?_push_of_some _ (Heap.get?_push_of_some _ (Heap.get?_push_of_some _ (Heap.get?_push_of_some _ (Heap.get?_push_of_some _ e)))))⟩
abbrev gyT4 (h : Heap) (o1 o2 o3 o4 : Obj) : Heap := ((((h.push o1).push o2).push o3).push o4).push { cls := .type "tuple", data := .seq #[.ref h.objs.size, .ref (h.push o1).objs.size, .ref ((h.push o1).push o2).objs.size, .ref (((h.push o1).push o2).push o3).objs.size] }
abbrev gyO4 (h : Heap) (o1 o2 o3 o4 : Obj) : Heap := (gyT4 h o1 o2 o3 o4).push { cls := .type "tuple", data := .seq #[.none, .none, .none, .none] }
abbrev gyZ4 (h : Heap) (o1 o2 o3 o4 : Obj) : Heap := (gyO4 h o1 o2 o3 o4).push { cls := .type "zip", data := .fields #[.none, .bool false, .bool false, .ref ((((h.push o1).push o2).push o3).push o4).objs.size, .ref (gyT4 h o1 o2 o3 o4).objs.size] }
theorem gy_tc4 (v1 v2 v3 v4 : Value) : checkTypeCall "zip" ⟨[v1, v2, v3, v4], []⟩ = pure () := by kernel_rfl
theorem gy_nc4 (v1 v2 v3 v4 : Value) : checkBuiltinCall "zip.__new__" ⟨[.type "zip", v1, v2, v3, v4], []⟩ = pure () := by kernel_rfl
theorem gy_oi4 (obj v1 v2 v3 v4 : Value) : argsOk "object.__init__" ⟨[obj, v1, v2, v3, v4], []⟩ := by unfold argsOk; kernel_rfl
theorem gy_meets4 {v1 v2 v3 v4 : Value} {o1 o2 o3 o4 : Obj} {H1 H2 H3 H4 : Heap → Prop} (B1 : Begins v1 o1 H1) (B2 : Begins v2 o2 H2) (B3 : Begins v3 o3 H3) (B4 : Begins v4 o4 H4) :
    Meets (Builtin.«zip.__new__» ⟨[.type "zip", v1, v2, v3, v4], []⟩) (fun _ R s => (H1 s.heap ∧ H2 s.heap ∧ H3 s.heap ∧ H4 s.heap) ∧
      R (.ok (.ret (.ref (gyO4 s.heap o1 o2 o3 o4).objs.size))) { s with heap := gyZ4 s.heap o1 o2 o3 o4 }) :=
  .of_wp fun prog w A R s h => by
    obtain ⟨hp, g, d, tk, os⟩ := s; obtain ⟨⟨h1, h2, h3, h4⟩, h⟩ := h
    have hsub := sub_zip
    have q1 : ∀ {A' : Around} {E : Value → Shared → Prop} {Q : Value → Shared → Prop}, Q (.ref hp.objs.size) ⟨(hp.push o1), g, d, tk, os⟩ → wpAny (model prog w) A' (pyIter v1) Q E ⟨hp, g, d, tk, os⟩ :=
      fun q => B1.iter prog w _ _ ⟨hp, g, d, tk, os⟩ _ (B1.keeps _ _ h1 fun b o' e => e) q
    have q2 : ∀ {A' : Around} {E : Value → Shared → Prop} {Q : Value → Shared → Prop}, Q (.ref (hp.push o1).objs.size) ⟨((hp.push o1).push o2), g, d, tk, os⟩ → wpAny (model prog w) A' (pyIter v2) Q E ⟨(hp.push o1), g, d, tk, os⟩ :=
      fun q => B2.iter prog w _ _ ⟨(hp.push o1), g, d, tk, os⟩ _ (B2.keeps _ _ h2 fun b o' e => (Heap.get?_push_of_some _ e)) q
    have q3 : ∀ {A' : Around} {E : Value → Shared → Prop} {Q : Value → Shared → Prop}, Q (.ref ((hp.push o1).push o2).objs.size) ⟨(((hp.push o1).push o2).push o3), g, d, tk, os⟩ → wpAny (model prog w) A' (pyIter v3) Q E ⟨((hp.push o1).push o2), g, d, tk, os⟩ :=
      fun q => B3.iter prog w _ _ ⟨((hp.push o1).push o2), g, d, tk, os⟩ _ (B3.keeps _ _ h3 fun b o' e => (Heap.get?_push_of_some _ (Heap.get?_push_of_some _ e))) q
    have q4 : ∀ {A' : Around} {E : Value → Shared → Prop} {Q : Value → Shared → Prop}, Q (.ref (((hp.push o1).push o2).push o3).objs.size) ⟨((((hp.push o1).push o2).push o3).push o4), g, d, tk, os⟩ → wpAny (model prog w) A' (pyIter v4) Q E ⟨(((hp.push o1).push o2).push o3), g, d, tk, os⟩ :=
      fun q => B4.iter prog w _ _ ⟨(((hp.push o1).push o2).push o3), g, d, tk, os⟩ _ (B4.keeps _ _ h4 fun b o' e => (Heap.get?_push_of_some _ (Heap.get?_push_of_some _ (Heap.get?_push_of_some _ e)))) q
    wp_walk using q1, q2, q3, q4
    exact ⟨_, rfl, h⟩
theorem gy_begins4 {prog : Program} {w : World} {A : Around} {E : Value → Shared → Prop} {s : Shared} {v1 v2 v3 v4 : Value} {o1 o2 o3 o4 : Obj} {H1 H2 H3 H4 : Heap → Prop} {Q : Value → Shared → Prop} (B1 : Begins v1 o1 H1) (B2 : Begins v2 o2 H2) (B3 : Begins v3 o3 H3) (B4 : Begins v4 o4 H4) (h1 : H1 s.heap) (h2 : H2 s.heap) (h3 : H3 s.heap) (h4 : H4 s.heap)
    (h : ∀ h', IsZip h' (s.heap.objs.size + 6) (s.heap.objs.size + 4) (s.heap.objs.size + 5) .none → IsTupA h' (s.heap.objs.size + 4) #[.ref s.heap.objs.size, .ref (s.heap.objs.size + 1), .ref (s.heap.objs.size + 2), .ref (s.heap.objs.size + 3)] → IsTupA h' (s.heap.objs.size + 5) #[.none, .none, .none, .none] → h'.get? s.heap.objs.size = some o1 → h'.get? (s.heap.objs.size + 1) = some o2 → h'.get? (s.heap.objs.size + 2) = some o3 → h'.get? (s.heap.objs.size + 3) = some o4 → h'.objs.size = s.heap.objs.size + 7 →
      (∀ c o, s.heap.get? c = some o → h'.get? c = some o) → Q (.ref (s.heap.objs.size + 6)) { s with heap := h' }) :
    wpAny (model prog w) A (call (.type "zip") [v1, v2, v3, v4]) Q E s := by
  refine callType_new F.called_zip (by decide) (gy_tc4 _ _ _ _) (gy_nc4 _ _ _ _) (fun obj => gy_oi4 obj _ _ _ _) F.entry_zip_new
    (gy_meets4 B1 B2 B3 B4) ⟨⟨h1, h2, h3, h4⟩, ?_⟩
  have z1 : (s.heap.push o1).objs.size = s.heap.objs.size + 1 := by rw [Heap.size_push]
  have z2 : ((s.heap.push o1).push o2).objs.size = s.heap.objs.size + 2 := by rw [Heap.size_push, z1]
  have z3 : (((s.heap.push o1).push o2).push o3).objs.size = s.heap.objs.size + 3 := by rw [Heap.size_push, z2]
  have z4 : ((((s.heap.push o1).push o2).push o3).push o4).objs.size = s.heap.objs.size + 4 := by rw [Heap.size_push, z3]
  have zT : (gyT4 s.heap o1 o2 o3 o4).objs.size = s.heap.objs.size + 5 := by rw [Heap.size_push, z4]
  have zO : (gyO4 s.heap o1 o2 o3 o4).objs.size = s.heap.objs.size + 6 := by rw [Heap.size_push, zT]
  have zZ : (gyZ4 s.heap o1 o2 o3 o4).objs.size = s.heap.objs.size + 7 := by rw [Heap.size_push, zO]
  have gZ : (gyZ4 s.heap o1 o2 o3 o4).get? (gyO4 s.heap o1 o2 o3 o4).objs.size = some { cls := .type "zip", data := .fields #[.none, .bool false, .bool false, .ref ((((s.heap.push o1).push o2).push o3).push o4).objs.size, .ref (gyT4 s.heap o1 o2 o3 o4).objs.size] } := Heap.get?_push_size _ rfl
  have gO : (gyZ4 s.heap o1 o2 o3 o4).get? (gyT4 s.heap o1 o2 o3 o4).objs.size = some { cls := .type "tuple", data := .seq #[.none, .none, .none, .none] } := Heap.get?_push_of_some _ (Heap.get?_push_size _ rfl)
  have gT : (gyZ4 s.heap o1 o2 o3 o4).get? ((((s.heap.push o1).push o2).push o3).push o4).objs.size = some { cls := .type "tuple", data := .seq #[.ref s.heap.objs.size, .ref (s.heap.push o1).objs.size, .ref ((s.heap.push o1).push o2).objs.size, .ref (((s.heap.push o1).push o2).push o3).objs.size] } := Heap.get?_push_of_some _ (Heap.get?_push_of_some _ (Heap.get?_push_size _ rfl))
  have g1 : (gyZ4 s.heap o1 o2 o3 o4).get? s.heap.objs.size = some o1 := Heap.get?_push_of_some _ (Heap.get?_push_of_some _ (Heap.get?_push_of_some _ (Heap.get?_push_of_some _ (Heap.get?_push_of_some _ (Heap.get?_push_of_some _ (Heap.get?_push_size _ B1.free))))))
  have g2 : (gyZ4 s.heap o1 o2 o3 o4).get? (s.heap.push o1).objs.size = some o2 := Heap.get?_push_of_some _ (Heap.get?_push_of_some _ (Heap.get?_push_of_some _ (Heap.get?_push_of_some _ (Heap.get?_push_of_some _ (Heap.get?_push_size _ B2.free)))))
  have g3 : (gyZ4 s.heap o1 o2 o3 o4).get? ((s.heap.push o1).push o2).objs.size = some o3 := Heap.get?_push_of_some _ (Heap.get?_push_of_some _ (Heap.get?_push_of_some _ (Heap.get?_push_of_some _ (Heap.get?_push_size _ B3.free))))
  have g4 : (gyZ4 s.heap o1 o2 o3 o4).get? (((s.heap.push o1).push o2).push o3).objs.size = some o4 := Heap.get?_push_of_some _ (Heap.get?_push_of_some _ (Heap.get?_push_of_some _ (Heap.get?_push_size _ B4.free)))
  rw [zO, zT, z4] at gZ
  rw [zT] at gO
  rw [z4, z3, z2, z1] at gT
  rw [z1] at g2
  rw [z2] at g3
  rw [z3] at g4
  show _ ∧ _
  rw [zO]
  exact ⟨⟨_, gZ, rfl⟩, h _ gZ gT gO g1 g2 g3 g4 zZ fun c o e => Heap.get?_push_of_some _ (Heap.get?_push_of_some _ (Heap.get?_push_of_some _ (Heap.get?_push_of_some _ (Heap.get?_push_of_some _ (Heap.get?_push_of_some _ (Heap.get?_push_of_some _ e))))))⟩
local macro_rules
  | `(tactic| walk_at "N") => `(tactic| ((try dsimp only); show ¬ ((_ : Nat) = (_ : Nat)); omega))
  | `(tactic| walk_at "P") => `(tactic| (simp only [List.map_cons, List.map_nil, List.nodup_cons, List.mem_cons, List.not_mem_nil, or_false, not_or, not_false_eq_true, and_true, List.nodup_nil]; repeat (first | refine ⟨?_, ?_⟩ | walk_at "N")))
theorem zipM_begins {prog : Program} {w : World} {A : Around} {E : Value → Shared → Prop} {s : Shared} {as : List Addr} {Q : Value → Shared → Prop} (h23 : 1 ≤ as.length ∧ as.length ≤ 4) (ht : ∀ a ∈ as, ∃ items, s.heap.IsTuple a items)
    (h : ∀ (h' : Heap) (z TI TO : Addr) (Lia : List (Addr × Addr)), Lia.map (·.2) = as → (∀ L : ZL, L.map (fun p => (p.1, p.2.1)) = Lia → ZnSep z TI TO L) → ZnSt z TI TO Lia 0 h' → (∀ c ∈ z :: TI :: TO :: Lia.map (·.1), s.heap.objs.size ≤ c) → (∀ c o, s.heap.get? c = some o → h'.get? c = some o) → Q (.ref z) { s with heap := h' }) :
    wpAny (model prog w) A (call (.type "zip") (as.map Value.ref)) Q E s := by
  have bt : ∀ (a : Addr) (items : Array Value), Begins (.ref a) (iterObj true a) fun h => PlainS h true a items := begins_s true
  match as, h23 with
  | [a1], _ =>
    obtain ⟨x1, e1⟩ := ht a1 (by simp)
    have l1 : @LT.lt Nat _ a1 s.heap.objs.size := by obtain ⟨o, e, _⟩ := e1; exact Heap.lt_size e
    refine gy_begins1 (bt a1 x1) e1 fun h' hz hTI hTO h1 hsz hk => ?_
    refine h h' (s.heap.objs.size + 3) (s.heap.objs.size + 1) (s.heap.objs.size + 2) [(s.heap.objs.size, a1)] rfl (fun L e => ?_) ⟨⟨false, .inl hz⟩, hTI, ⟨_, hTO, rfl⟩, ?_⟩ ?_ hk
    · match L, e with
      | [(i1, b1, y1)], e =>
        simp only [List.map_cons, List.map_nil, List.cons.injEq, Prod.mk.injEq, and_true] at e
        obtain ⟨rfl, rfl⟩ := e
        refine ⟨by walk_at "N", by walk_at "N", by walk_at "N", by walk_at "P", ?_, ?_⟩
        · intro p hp; simp at hp; subst hp; exact ⟨by walk_at "N", by walk_at "N", by walk_at "N", by walk_at "N", by walk_at "N"⟩
        · intro p hp q hq; simp at hp hq; subst hp; subst hq; walk_at "N"
    · intro p hp; simp at hp; subst hp
      exact iterAt_mk (t := true) h1
    · intro c hc; simp at hc; rcases hc with rfl | rfl | rfl | rfl <;> first | exact Nat.le_refl _ | exact Nat.le_add_right _ _
  | [a1, a2], _ =>
    obtain ⟨x1, e1⟩ := ht a1 (by simp)
    have l1 : @LT.lt Nat _ a1 s.heap.objs.size := by obtain ⟨o, e, _⟩ := e1; exact Heap.lt_size e
    obtain ⟨x2, e2⟩ := ht a2 (by simp)
    have l2 : @LT.lt Nat _ a2 s.heap.objs.size := by obtain ⟨o, e, _⟩ := e2; exact Heap.lt_size e
    refine gy_begins2 (bt a1 x1) (bt a2 x2) e1 e2 fun h' hz hTI hTO h1 h2 hsz hk => ?_
    refine h h' (s.heap.objs.size + 4) (s.heap.objs.size + 2) (s.heap.objs.size + 3) [(s.heap.objs.size, a1), (s.heap.objs.size + 1, a2)] rfl (fun L e => ?_) ⟨⟨false, .inl hz⟩, hTI, ⟨_, hTO, rfl⟩, ?_⟩ ?_ hk
    · match L, e with
      | [(i1, b1, y1), (i2, b2, y2)], e =>
        simp only [List.map_cons, List.map_nil, List.cons.injEq, Prod.mk.injEq, and_true] at e
        obtain ⟨⟨rfl, rfl⟩, rfl, rfl⟩ := e
        refine ⟨by walk_at "N", by walk_at "N", by walk_at "N", by walk_at "P", ?_, ?_⟩
        · intro p hp; simp at hp; rcases hp with rfl | rfl <;> exact ⟨by walk_at "N", by walk_at "N", by walk_at "N", by walk_at "N", by walk_at "N"⟩
        · intro p hp q hq; simp at hp hq; rcases hp with rfl | rfl <;> rcases hq with rfl | rfl <;> walk_at "N"
    · intro p hp; simp at hp; rcases hp with rfl | rfl
      · exact iterAt_mk (t := true) h1
      · exact iterAt_mk (t := true) h2
    · intro c hc; simp at hc; rcases hc with rfl | rfl | rfl | rfl | rfl <;> first | exact Nat.le_refl _ | exact Nat.le_add_right _ _
  | [a1, a2, a3], _ =>
    obtain ⟨x1, e1⟩ := ht a1 (by simp)
    have l1 : @LT.lt Nat _ a1 s.heap.objs.size := by obtain ⟨o, e, _⟩ := e1; exact Heap.lt_size e
    obtain ⟨x2, e2⟩ := ht a2 (by simp)
    have l2 : @LT.lt Nat _ a2 s.heap.objs.size := by obtain ⟨o, e, _⟩ := e2; exact Heap.lt_size e
    obtain ⟨x3, e3⟩ := ht a3 (by simp)
    have l3 : @LT.lt Nat _ a3 s.heap.objs.size := by obtain ⟨o, e, _⟩ := e3; exact Heap.lt_size e
    refine gy_begins3 (bt a1 x1) (bt a2 x2) (bt a3 x3) e1 e2 e3 fun h' hz hTI hTO h1 h2 h3 hsz hk => ?_
    refine h h' (s.heap.objs.size + 5) (s.heap.objs.size + 3) (s.heap.objs.size + 4) [(s.heap.objs.size, a1), (s.heap.objs.size + 1, a2), (s.heap.objs.size + 2, a3)] rfl (fun L e => ?_) ⟨⟨false, .inl hz⟩, hTI, ⟨_, hTO, rfl⟩, ?_⟩ ?_ hk
    · match L, e with
      | [(i1, b1, y1), (i2, b2, y2), (i3, b3, y3)], e =>
        simp only [List.map_cons, List.map_nil, List.cons.injEq, Prod.mk.injEq, and_true] at e
        obtain ⟨⟨rfl, rfl⟩, ⟨rfl, rfl⟩, rfl, rfl⟩ := e
        refine ⟨by walk_at "N", by walk_at "N", by walk_at "N", by walk_at "P", ?_, ?_⟩
        · intro p hp; simp at hp; rcases hp with rfl | rfl | rfl <;> exact ⟨by walk_at "N", by walk_at "N", by walk_at "N", by walk_at "N", by walk_at "N"⟩
        · intro p hp q hq; simp at hp hq; rcases hp with rfl | rfl | rfl <;> rcases hq with rfl | rfl | rfl <;> walk_at "N"
    · intro p hp; simp at hp; rcases hp with rfl | rfl | rfl
      · exact iterAt_mk (t := true) h1
      · exact iterAt_mk (t := true) h2
      · exact iterAt_mk (t := true) h3
    · intro c hc; simp at hc; rcases hc with rfl | rfl | rfl | rfl | rfl | rfl <;> first | exact Nat.le_refl _ | exact Nat.le_add_right _ _
  | [a1, a2, a3, a4], _ =>
    obtain ⟨x1, e1⟩ := ht a1 (by simp)
    have l1 : @LT.lt Nat _ a1 s.heap.objs.size := by obtain ⟨o, e, _⟩ := e1; exact Heap.lt_size e
    obtain ⟨x2, e2⟩ := ht a2 (by simp)
    have l2 : @LT.lt Nat _ a2 s.heap.objs.size := by obtain ⟨o, e, _⟩ := e2; exact Heap.lt_size e
    obtain ⟨x3, e3⟩ := ht a3 (by simp)
    have l3 : @LT.lt Nat _ a3 s.heap.objs.size := by obtain ⟨o, e, _⟩ := e3; exact Heap.lt_size e
    obtain ⟨x4, e4⟩ := ht a4 (by simp)
    have l4 : @LT.lt Nat _ a4 s.heap.objs.size := by obtain ⟨o, e, _⟩ := e4; exact Heap.lt_size e
    refine gy_begins4 (bt a1 x1) (bt a2 x2) (bt a3 x3) (bt a4 x4) e1 e2 e3 e4 fun h' hz hTI hTO h1 h2 h3 h4 hsz hk => ?_
    refine h h' (s.heap.objs.size + 6) (s.heap.objs.size + 4) (s.heap.objs.size + 5) [(s.heap.objs.size, a1), (s.heap.objs.size + 1, a2), (s.heap.objs.size + 2, a3), (s.heap.objs.size + 3, a4)] rfl (fun L e => ?_) ⟨⟨false, .inl hz⟩, hTI, ⟨_, hTO, rfl⟩, ?_⟩ ?_ hk
    · match L, e with
      | [(i1, b1, y1), (i2, b2, y2), (i3, b3, y3), (i4, b4, y4)], e =>
        simp only [List.map_cons, List.map_nil, List.cons.injEq, Prod.mk.injEq, and_true] at e
        obtain ⟨⟨rfl, rfl⟩, ⟨rfl, rfl⟩, ⟨rfl, rfl⟩, rfl, rfl⟩ := e
        refine ⟨by walk_at "N", by walk_at "N", by walk_at "N", by walk_at "P", ?_, ?_⟩
        · intro p hp; simp at hp; rcases hp with rfl | rfl | rfl | rfl <;> exact ⟨by walk_at "N", by walk_at "N", by walk_at "N", by walk_at "N", by walk_at "N"⟩
        · intro p hp q hq; simp at hp hq; rcases hp with rfl | rfl | rfl | rfl <;> rcases hq with rfl | rfl | rfl | rfl <;> walk_at "N"
    · intro p hp; simp at hp; rcases hp with rfl | rfl | rfl | rfl
      · exact iterAt_mk (t := true) h1
      · exact iterAt_mk (t := true) h2
      · exact iterAt_mk (t := true) h3
      · exact iterAt_mk (t := true) h4
    · intro c hc; simp at hc; rcases hc with rfl | rfl | rfl | rfl | rfl | rfl | rfl <;> first | exact Nat.le_refl _ | exact Nat.le_add_right _ _
def iZipM (K : PySem.W.Frag) (te : TE) : TI := fun σ H R => te σ H fun x H1 => ∃ (p : Addr) (as : List Addr), x = .ref p ∧ (SqT K H1 p (as.map V.ref) ∨ SqL K H1 p (as.map V.ref)) ∧ (1 ≤ as.length ∧ as.length ≤ 4) ∧ (∀ a ∈ as, ∃ xs, SqT K H1 a xs) ∧ R (ItzN K as) H1
theorem pi_zipM {X : Cx} {e : Expr} {te : TE} {y : Str} {p sp pos tpos : Pos} (hg : Gl X "zip") (hm : X.mg "zip" = none) (he : PE X e te) (hs : starEach [.Starred e sp] X.env = [(true, eval e X.env)] := by rfl) :
    PI X (.Name y tpos) (.Call (.Name "zip" p) [.Starred e sp] [] pos) (iZipM X.K te) := by
  refine ⟨fun pins s σ H R I h => ?_⟩
  refine Call_ (ld_blt I hg hm PyProof.Rows.boot_zip ?_)
  rw [hs]
  refine callWith_typeS (thn (he.run pins s σ H _ I h) fun u s1 ⟨x, H1, I1, r1, q1⟩ => ?_)
  obtain ⟨p0, as, ex, hx, h23, hall, q⟩ := q1
  subst ex
  obtain rfl : u = Value.ref p0 := r1
  refine StX.star_any I1 hx fun us s2 I2 rv => ?_
  obtain rfl := vals_refs rv
  refine zipM_begins h23 (fun a ha => ?_) fun h' z TI TO Lia e1 hS st hge hk => ?_
  · obtain ⟨xs, hxs⟩ := hall a ha
    obtain ⟨its, _, pl, _, _⟩ := inv_s (t := true) I2 hxs
    exact ⟨_, pl⟩
  have hL : Lia.length = as.length := by rw [← e1, List.length_map]
  have I3 : Inv X pins σ H1 { s2 with heap := h' } := I2.kept (t' := s2.toks) hk
  have T := turn_zipN (P := X.prog) (w := X.w) (K := X.K) (y := y) (tpos := tpos) hS (by omega) (by omega)
  rw [e1] at T
  refine T.self X.A 0 _ _ _ st ?_
  refine ⟨z, _, _, _, H1, rfl, I3, T, st, fun c hc => ?_, q⟩
  exact I2.fpOk (hge c hc) (I2.hok.fresh (hge c hc))
def dZipM (te : DTE) : DTI := fun σ h R => te σ h fun x h1 => ∃ (rows : List (List D)) (m : Nat), itemsD h1 x = some (rows.map D.tup) ∧ (1 ≤ rows.length ∧ rows.length ≤ 4) ∧ (∀ r ∈ rows, r.length = m) ∧ R (colsD rows m) (fun _ => True) h1
theorem di_zipM {X : Cx} {e : Expr} {te : DTE} {y : Str} {p sp pos tpos : Pos} (hg : Gl X "zip") (hm : X.mg "zip" = none) (he : DE X e te) (hs : starEach [.Starred e sp] X.env = [(true, eval e X.env)] := by rfl) :
    DI X (.Name y tpos) (.Call (.Name "zip" p) [.Starred e sp] [] pos) (dZipM te) := (pi_zipM hg hm he hs).imp fun σ H R ⟨σD, h, RD, rs, q, pp⟩ => by
  refine ⟨σD, h, _, rs, q, fun d1 h1 v1 H1 q1 rs1 r1 k1 => ?_⟩
  obtain ⟨rows, m, ei, h23, hall, q1⟩ := q1
  obtain ⟨a, vs, rfl, sq, rr⟩ := items_of rs1.hr ei r1
  obtain ⟨as, rfl, ra⟩ := RowsAt.of rr
  have la := ra.len
  refine ⟨a, as, rfl, sq.symm, by rw [la]; exact h23, fun b hb => (ra.all hall b hb).imp fun xs hx => hx.1, ?_⟩
  refine pp _ _ h1 (ItzN X.K as) H1 q1 rs1 k1 ⟨fun i h H hi r st tm b hb => ?_, fun h H r st tm => ?_, fun i h H x H' hi r st tm y => ?_⟩
  · rw [colsD_len] at hi
    obtain ⟨xs, hx, lx⟩ := (ra.mono tm).all hall b hb
    exact ⟨xs, hx, by omega⟩
  · rw [colsD_len]
    refine ⟨fun b hb => ((ra.mono tm).all hall b hb).imp fun xs hx => hx.1, ?_⟩
    obtain ⟨b, hb⟩ : ∃ b, as[0]? = some b := ⟨as[0]'(by omega), List.getElem?_eq_getElem _⟩
    obtain ⟨xs, hx, lx⟩ := (ra.mono tm).all hall b (List.mem_of_getElem? hb)
    exact ⟨b, xs, hb, hx, lx.symm⟩
  · rw [colsD_len] at hi
    obtain ⟨T, us, rfl, nT, rfl, lu, f⟩ := y
    have c := (ra.mono tm).col hi hall lu f
    refine ⟨_, colsD_get hi, rep_tup_mk nT c, r.hid nT, fun c o z => ?_⟩
    rw [upd_ne (ne_of_none z nT)]
    exact z
/-! ### a, b, .. = a tuple or a list of as many -/
def dgUnb (n : Nat) (gs : DTGs) : DTG := fun d σ h Q => match d with
  | .tup ds => ds.length = n ∧ gs ds σ h Q
  | .ref a => match h a with
    | some (.lst ds) => ds.length = n ∧ gs ds σ h Q
    | _ => False
  | _ => False
theorem pg_or {X : Cx} {e : Expr} {t u : TG} (a : PG X e t) (b : PG X e u) : PG X e (fun v σ H Q => t v σ H Q ∨ u v σ H Q) :=
  ⟨fun pins s σ H v w Q I r q => q.elim (a.run pins s σ H v w Q I r) (b.run pins s σ H v w Q I r)⟩
theorem dg_unb {X : Cx} {es : List Expr} {pos : Pos} {is : List Nat} {gs : DTGs} {k n : Nat} (hc : X.calm = true) (h : DGs X es is gs) (hn : (assignEach es X.env).length = n := by rfl) (hst : (assignEach es X.env).findIdx? (·.1) = none := by rfl) : DG X (.Tuple es k pos) is (dgUnb n gs) :=
  (pg_or (dg_tup (n := n) hc h hn hst) (dg_unl (n := n) hc h hn hst)).imp fun v σ H Q ⟨d, σD, hh, QD, rs, r, q, p⟩ => by
    unfold dgUnb at q
    split at q
    · rename_i ds
      exact .inl ⟨_, σD, hh, QD, rs, r, q, p⟩
    · rename_i a
      split at q
      · rename_i ds e
        refine .inr ⟨_, σD, hh, QD, rs, r, ?_, p⟩
        simp only [dgUnl, items_lst e]
        exact ⟨⟨a, rfl⟩, q⟩
      · exact q.elim
    · exact q.elim
end DL

namespace DL
open PySem PySem.Spec L2
open PyProof.Rows hiding St
/-! ### enumerate(zip(a, b)) -/
theorem PlainS.at' {h h' : Heap} {t : Bool} {a : Addr} {xs : Array Value} (q : PlainS h t a xs) (k : ∀ o, h.get? a = some o → h'.get? a = some o) : PlainS h' t a xs := by
  cases t with
  | true => exact Heap.IsTuple.at q k
  | false => exact Heap.IsList.at q k
def ZfAt (fl : Addr → Bool) (L : ZL) (i j : Nat) (h : Heap) : Prop := ∀ k p, L[k]? = some p → IterAt h (fl p.1) p.1 p.2.1 (if k < j then i + 1 else i) ∧ PlainS h (fl p.1) p.2.1 p.2.2
section
variable {prog : Program} {w : World} {A : Around} {E : Value → Shared → Prop} {z TI TO : Addr} {L : ZL} {i : Nat} {fl : Addr → Bool}
/-- one draw -/
theorem zf_draw {Q : Value → Shared → Prop} {s : Shared} {j : Nat} {p : Addr × Addr × Array Value} (S : ZnSep z TI TO L) (hh : A.handled = none) (st : ZfAt fl L i j s.heap) (hp : L[j]? = some p) (hlt : i < p.2.2.size)
    (hQ : ∀ h' tk, ZfAt fl L i (j + 1) h' → Heap.SameBut p.1 s.heap h' → Q (p.2.2.getD i .none) { s with heap := h', toks := tk }) : wpAny (model prog w) A (Builtin.SmallTypes.nextOf (.ref p.1)) Q E s := by
  have hm := List.mem_of_getElem? hp
  have D := draws_s (prog := prog) (w := w) hh (fl p.1) p.1 p.2.1 (S.ia p hm p hm) p.2.2
  obtain ⟨s1, s2⟩ := st j p hp
  rw [if_neg (Nat.lt_irrefl j)] at s1
  refine D.item i s Q E hlt ⟨s1, s2⟩ fun x h' tk hx st' sb => ?_
  have ex : x = p.2.2.getD i .none := by
    have hx' : p.2.2[i]? = some x := hx
    simp [hx']
  rw [ex]
  refine hQ h' tk (fun k q hk => ?_) sb
  by_cases e : k = j
  · subst e
    rw [hp] at hk; cases hk
    rw [if_pos (Nat.lt_succ_self k)]
    exact st'
  · obtain ⟨q1, q2⟩ := st k q hk
    have hq := List.mem_of_getElem? hk
    refine ⟨?_, q2.at' fun o e => sb.extBut _ _ (S.ia q hq p hm) e⟩
    have : (if k < j + 1 then i + 1 else i) = (if k < j then i + 1 else i) := by
      by_cases h1 : k < j
      · rw [if_pos h1, if_pos (by omega)]
      · rw [if_neg h1, if_neg (by omega)]
    rw [this]
    exact q1.at' fun o e2 => sb.extBut _ _ (S.ne hk hp e) e2
theorem zf_keepAt {h h' : Heap} {j : Nat} (st : ZfAt fl L i j h) (k : ∀ p ∈ L, ∀ c, c = p.1 ∨ c = p.2.1 → ∀ o, h.get? c = some o → h'.get? c = some o) : ZfAt fl L i j h' := fun n p hp => by
  obtain ⟨a, b⟩ := st n p hp
  have hm := List.mem_of_getElem? hp
  exact ⟨a.at' fun o e => k p hm _ (.inl rfl) o e, b.at' fun o e => k p hm _ (.inr rfl) o e⟩
/-- next where the former tuple is not reused -/
theorem zf_next_out {Q : Value → Shared → Prop} {s : Shared} {x0 f : Value} (S : ZnSep z TI TO L) (hh : A.handled = none) (hz : IsZipF s.heap z TI TO x0 f) (hTI : IsTupA s.heap TI (L.map fun p => Value.ref p.1).toArray) (st : ZfAt fl L i 0 s.heap) (hlt : ∀ p ∈ L, i < p.2.2.size) (hL : 0 < L.length) (hL2 : L.length ≤ 1000)
    (hfree : ∀ (Q : Bool → Shared → Prop), (∀ h' (f' : Bool), IsZipF h' z TI TO x0 (.bool f') → Heap.SameBut z s.heap h' → Q false { s with heap := h' }) → wpAny (model prog w) A (Builtin.SmallTypes.ownedTupleIsFree (.ref z)) Q E s)
    (hQ : ∀ h' tk (f' : Bool), IsZipF h' z TI TO x0 (.bool f') → ZfAt fl L (i + 1) 0 h' → IsTupA h' s.heap.objs.size (ZnVal L i).toArray → h'.objs.size = s.heap.objs.size + 1 →
      (∀ c o, c ≠ z → (∀ p ∈ L, c ≠ p.1) → s.heap.get? c = some o → h'.get? c = some o) → Q (.ref s.heap.objs.size) { s with heap := h', toks := tk }) :
    wpAny (model prog w) A (Builtin.«zip.__next__» ⟨[.ref z], []⟩) (fun fin s' => ∃ v, fin = .done (.ret v) ∧ Q v s') E s := by
  show wpAny _ _ (field (.ref z) 2 >>= _) _ _ _
  refine wpAny_bind (wpAny_field hz rfl (x := .bool false) rfl ?_)
  show wpAny _ _ (field (.ref z) 3 >>= _) _ _ _
  refine wpAny_bind (wpAny_field hz rfl (x := .ref TI) rfl ?_)
  refine wpAny_bind (wpAny_seqItems hTI rfl ?_)
  have ne : (L.map fun p => Value.ref p.1).toArray.isEmpty = false := by
    cases L with
    | nil => simp at hL
    | cons p L => simp
  show wpAny _ _ (if (L.map fun p => Value.ref p.1).toArray.isEmpty = true then _ else _) _ _ _
  rw [ne, if_neg Bool.false_ne_true]
  show wpAny _ _ (Builtin.SmallTypes.ownedTupleIsFree (.ref z) >>= _) _ _ _
  refine wpAny_bind (hfree _ fun h₁ f' hz₁ hs₁ => ?_)
  simp only [Bool.false_eq_true, if_false]
  refine wpAny_bind ?_
  rw [← Array.forIn_toList]
  have eT : (L.map fun p => Value.ref p.1).toArray.toList = L.map fun p => Value.ref p.1 := by simp
  rw [eT]
  obtain ⟨hp, g, d, tk, os⟩ := s
  refine forIn_st (M := model prog w) (fun j => ((none : Option Fin), ((ZnVal L i).take j).toArray)) (fun j s' => ∃ g' tk', s' = ⟨g', g, d, tk', os⟩ ∧ IsZipF g' z TI TO x0 (.bool f') ∧ ZfAt fl L i j g' ∧ g'.objs.size = hp.objs.size ∧ ∀ c o, c ≠ z → (∀ p ∈ L, c ≠ p.1) → hp.get? c = some o → g'.get? c = some o) (L.map fun p => Value.ref p.1) 0 _ ⟨h₁, tk, rfl, hz₁, ?_, hs₁.1, fun c o cz _ e => hs₁.extBut _ _ cz e⟩ ?_ ?_
  · exact zf_keepAt st fun p hm c hc o e => hs₁.extBut _ _ (by rcases hc with rfl | rfl; exact (S.ap p hm).1; exact (S.ap p hm).2.2.2.1) e
  · rintro j x _ Q hx ⟨g', tk', rfl, hz', st', sz', kp'⟩ q
    rw [Nat.zero_add] at *
    simp only [List.getElem?_map, Option.map_eq_some_iff] at hx
    obtain ⟨p, hpj, rfl⟩ := hx
    have hm := List.mem_of_getElem? hpj
    refine wpAny_bind (wpAny_holding ?_)
    show wpAny _ _ (Builtin.SmallTypes.nextOf (.ref p.1) >>= _) _ _ _
    refine wpAny_bind (zf_draw S hh st' hpj (hlt p hm) fun h' tk2 st2 sb => wpAny_pure (wpAny_pure ?_))
    have e2 : ((ZnVal L i).take j).toArray.push (p.2.2.getD i .none) = ((ZnVal L i).take (j + 1)).toArray := by
      rw [take_next (znVal_get hpj)]; simp
    rw [e2]
    refine q _ ⟨h', tk2, rfl, sb.extBut _ _ (S.ap p hm).1.symm hz', st2, by rw [sb.1, sz'], fun c o cz cp e => sb.extBut _ _ (cp p hm) (kp' c o cz cp e)⟩
  · rintro _ ⟨g', tk', rfl, hz', st', sz', kp'⟩
    rw [Nat.zero_add, List.length_map] at *
    have e3 : ((ZnVal L i).take L.length).toArray = (ZnVal L i).toArray := by rw [← znVal_len (L := L) (i := i), List.take_length]
    show wpAny _ _ (newTuple ((ZnVal L i).take L.length).toArray.toList >>= _) _ _ _
    rw [e3]
    refine wpAny_bind (wpAny_newTuple ?_ (by simp [znVal_len]; exact Nat.le_trans hL2 (by decide)))
    refine wpAny_pure ⟨_, rfl, ?_⟩
    have e4 : (ZnVal L i).toArray.toList = ZnVal L i := by simp
    have hT : IsTupA (g'.push { cls := .type "tuple", data := .seq (ZnVal L i).toArray.toList.toArray }) g'.objs.size (ZnVal L i).toArray := Heap.get?_push_size _ rfl
    have hz4 : (g'.push { cls := .type "tuple", data := .seq (ZnVal L i).toArray.toList.toArray }).objs.size = g'.objs.size + 1 := Heap.size_push ..
    show Q (.ref g'.objs.size) _
    rw [sz'] at hT hz4 ⊢
    refine hQ _ _ f' (Heap.get?_push_of_some _ hz') (fun k p hp' => ?_) hT hz4 fun c o cz cp e => Heap.get?_push_of_some _ (kp' c o cz cp e)
    obtain ⟨a, b⟩ := st' k p hp'
    rw [if_pos (List.getElem?_eq_some_iff.mp hp').1] at a
    rw [if_neg (Nat.not_lt_zero k)]
    exact ⟨a.at' fun o e => Heap.get?_push_of_some _ e, b.at' fun o e => Heap.get?_push_of_some _ e⟩
/-- next the first time: the zip's own tuple is filled, and a new one handed out -/
theorem zf_next_own {Q : Value → Shared → Prop} {s : Shared} {x0 f : Value} (S : ZnSep z TI TO L) (hh : A.handled = none) (hz : IsZipF s.heap z TI TO x0 f) (hown : ∀ (Q : Bool → Shared → Prop), Q true s → wpAny (model prog w) A (Builtin.SmallTypes.ownedTupleIsFree (.ref z)) Q E s) (hTI : IsTupA s.heap TI (L.map fun p => Value.ref p.1).toArray) (hTO : ∃ arr, IsTupA s.heap TO arr ∧ arr.size = L.length) (st : ZfAt fl L i 0 s.heap) (hlt : ∀ p ∈ L, i < p.2.2.size) (hL : 0 < L.length) (hL2 : L.length ≤ 1000)
    (hQ : ∀ h' tk, IsZipF h' z TI TO (rawInt s.heap.objs.size) (.bool false) → ZfAt fl L (i + 1) 0 h' → (∃ arr, IsTupA h' TO arr ∧ arr.size = L.length) → IsTupA h' s.heap.objs.size (ZnVal L i).toArray → h'.objs.size = s.heap.objs.size + 1 →
      (∀ c o, c ≠ z → c ≠ TO → (∀ p ∈ L, c ≠ p.1) → s.heap.get? c = some o → h'.get? c = some o) → Q (.ref s.heap.objs.size) { s with heap := h', toks := tk }) :
    wpAny (model prog w) A (Builtin.«zip.__next__» ⟨[.ref z], []⟩) (fun fin s' => ∃ v, fin = .done (.ret v) ∧ Q v s') E s := by
  obtain ⟨hp, g, d, tk, os⟩ := s
  show wpAny _ _ (field (.ref z) 2 >>= _) _ _ _
  refine wpAny_bind (wpAny_field hz rfl (x := .bool false) rfl ?_)
  show wpAny _ _ (field (.ref z) 3 >>= _) _ _ _
  refine wpAny_bind (wpAny_field hz rfl (x := .ref TI) rfl ?_)
  refine wpAny_bind (wpAny_seqItems hTI rfl ?_)
  have ne : (L.map fun p => Value.ref p.1).toArray.isEmpty = false := by
    cases L with
    | nil => simp at hL
    | cons p L => simp
  show wpAny _ _ (if (L.map fun p => Value.ref p.1).toArray.isEmpty = true then _ else _) _ _ _
  rw [ne, if_neg Bool.false_ne_true]
  show wpAny _ _ (Builtin.SmallTypes.ownedTupleIsFree (.ref z) >>= _) _ _ _
  refine wpAny_bind (hown _ ?_)
  simp only [if_true]
  refine wpAny_bind (wpAny_rule ?_)
  refine wpAny_bind (wpAny_field hz rfl (x := .ref TO) rfl ?_)
  refine wpAny_bind (wpAny_setField_rec hz (by simp) fun g0 hz0 hs0 => ?_)
  replace hz0 : IsZipF g0 z TI TO .ellipsis f := hz0
  replace hs0 : Heap.SameBut z hp g0 := hs0
  refine wpAny_bind ?_
  obtain ⟨arr, hTO, asz⟩ := hTO
  have hTO0 : IsTupA g0 TO arr := hs0.extBut _ _ S.TOz hTO
  refine forIn_st (M := model prog w) (fun _ => ((none : Option Fin), ())) (fun j s' => ∃ g' tk' arr, s' = ⟨g', g, d, tk', os⟩ ∧ IsZipF g' z TI TO .ellipsis f ∧ ZfAt fl L i j g' ∧ IsTupA g' TO arr ∧ arr.size = L.length ∧ (∀ k, k < j → arr[k]? = (ZnVal L i)[k]?) ∧ g'.objs.size = hp.objs.size ∧ ∀ c o, c ≠ z → c ≠ TO → (∀ p ∈ L, c ≠ p.1) → hp.get? c = some o → g'.get? c = some o) ((L.map fun p => Value.ref p.1).zipIdx) 0 _ ⟨g0, tk, arr, rfl, hz0, ?_, hTO0, asz, fun k hk => absurd hk (Nat.not_lt_zero k), hs0.1, fun c o cz _ _ e => hs0.extBut _ _ cz e⟩ ?_ ?_
  · exact zf_keepAt st fun p hm c hc o e => hs0.extBut _ _ (by rcases hc with rfl | rfl; exact (S.ap p hm).1; exact (S.ap p hm).2.2.2.1) e
  · rintro j x _ Q hx ⟨g', tk', arr, rfl, hz', st', hTO', asz', hv, sz', kp'⟩ q
    rw [Nat.zero_add] at *
    rw [List.getElem?_zipIdx, List.getElem?_map] at hx
    simp only [Option.map_map, Option.map_eq_some_iff, Nat.zero_add, Function.comp_def] at hx
    obtain ⟨p, hpj, rfl⟩ := hx
    have hm := List.mem_of_getElem? hpj
    have hjl : j < L.length := (List.getElem?_eq_some_iff.mp hpj).1
    refine wpAny_bind (wpAny_onRaise ?_)
    show wpAny _ _ (Builtin.SmallTypes.nextOf (.ref p.1) >>= _) _ _ _
    refine wpAny_bind (zf_draw S hh st' hpj (hlt p hm) fun h' tk2 st2 sb => wpAny_pure ?_)
    have hTO2 : IsTupA h' TO arr := sb.extBut _ _ (S.ap p hm).2.2.1.symm hTO'
    refine wpAny_bind (wpAny_seqItems (s := ⟨h', g, d, tk2, os⟩) hTO2 rfl ?_)
    have up := Heap.get?_update_self (Obj.mapSeq fun x => x.setIfInBounds j (p.2.2.getD i .none)) hTO2 rfl
    have sbu : Heap.SameBut TO h' (h'.update TO (Obj.mapSeq fun x => x.setIfInBounds j (p.2.2.getD i .none))) := Heap.SameBut.update ..
    refine wpAny_bind (wpAny_updateSeq (s := ⟨h', g, d, tk2, os⟩) hTO2 rfl ?_ (by rw [asz']; exact Nat.le_trans hL2 (by decide)) (by rw [Array.size_setIfInBounds, asz']; exact Nat.le_trans hL2 (by decide)))
    generalize hu : h'.update TO (Obj.mapSeq fun x => x.setIfInBounds j (p.2.2.getD i .none)) = u at up sbu ⊢
    refine wpAny_bind (wpAny_letGo (wpAny_pure ?_))
    refine q _ ⟨u, tk2, arr.setIfInBounds j (p.2.2.getD i .none), rfl, sbu.extBut _ _ S.TOz.symm (sb.extBut _ _ (S.ap p hm).1.symm hz'), ?_, ?_, by simp [asz'], ?_, by rw [sbu.1, sb.1, sz'], fun c o cz cT cp e => sbu.extBut _ _ cT (sb.extBut _ _ (cp p hm) (kp' c o cz cT cp e))⟩
    · exact zf_keepAt st2 fun p' hm' c hc o e => sbu.extBut _ _ (by rcases hc with rfl | rfl; exact (S.ap p' hm').2.2.1; exact (S.ap p' hm').2.2.2.2) e
    · show u.get? TO = _
      rw [up]; simp [Obj.mapSeq]
    · intro k hk
      by_cases e : k = j
      · subst e
        rw [znVal_get hpj, Array.getElem?_setIfInBounds_self_of_lt (by omega)]
      · rw [Array.getElem?_setIfInBounds_ne (Ne.symm e)]
        exact hv k (by omega)
  · rintro _ ⟨g', tk', arr, rfl, hz', st', hTO', asz', hv, sz', kp'⟩
    rw [Nat.zero_add, List.length_zipIdx, List.length_map] at *
    have ea : arr = (ZnVal L i).toArray := by
      have : arr.toList = ZnVal L i := by
        apply List.ext_getElem?
        intro k
        rw [Array.getElem?_toList]
        by_cases hk : k < L.length
        · exact hv k hk
        · rw [Array.getElem?_eq_none (by omega), List.getElem?_eq_none (by rw [znVal_len]; omega)]
      rw [← this]
    subst ea
    refine wpAny_bind (wpAny_seqItems (s := ⟨g', g, d, tk', os⟩) hTO' rfl ?_)
    refine wpAny_bind (wpAny_newTuple ?_ (by simp [znVal_len]; exact Nat.le_trans hL2 (by decide)))
    show wpAny _ _ (Builtin.SmallTypes.ownedTupleHandOut (.ref z) (.ref g'.objs.size) >>= _) _ _ ⟨g'.push { cls := .type "tuple", data := .seq (ZnVal L i).toArray }, g, d, tk', os⟩
    have hzlt : z < g'.objs.size := Heap.lt_size hz'
    refine wpAny_bind ?_
    unfold Builtin.SmallTypes.ownedTupleHandOut
    have hz₆ : IsZipF (g'.push { cls := .type "tuple", data := .seq (ZnVal L i).toArray }) z TI TO .ellipsis f := Heap.get?_push_of_some _ hz'
    refine wpAny_bind (wpAny_setField_rec hz₆ (by simp) fun h₇ hz₇ hs₇ => ?_)
    replace hz₇ : IsZipF h₇ z TI TO (rawInt g'.objs.size) f := hz₇
    refine wpAny_setField_rec hz₇ (by simp) fun h₈ hz₈ hs₈ => ?_
    replace hz₈ : IsZipF h₈ z TI TO (rawInt g'.objs.size) (.bool false) := hz₈
    replace hs₇ : Heap.SameBut z (g'.push { cls := .type "tuple", data := .seq (ZnVal L i).toArray }) h₇ := hs₇
    replace hs₈ : Heap.SameBut z h₇ h₈ := hs₈
    have up : ∀ c o, c ≠ z → g'.get? c = some o → h₈.get? c = some o := fun c o c1 e => hs₈.extBut _ _ c1 (hs₇.extBut _ _ c1 (Heap.get?_push_of_some _ e))
    have hT₈ : IsTupA h₈ g'.objs.size (ZnVal L i).toArray := hs₈.extBut _ _ (Nat.ne_of_gt hzlt) (hs₇.extBut _ _ (Nat.ne_of_gt hzlt) (Heap.get?_push_size _ rfl))
    have hz8 : h₈.objs.size = g'.objs.size + 1 := by rw [hs₈.1, hs₇.1, Heap.size_push]
    rw [sz'] at hz₈ hT₈ hz8
    refine wpAny_pure ⟨_, rfl, ?_⟩
    show Q (.ref g'.objs.size) ⟨h₈, g, d, tk', os⟩
    rw [sz']
    refine hQ h₈ tk' hz₈ (fun k p hp' => ?_) ⟨_, up _ _ S.TOz hTO', by simp [znVal_len]⟩ hT₈ hz8 fun c o cz cT cp e => up c o cz (kp' c o cz cT cp e)
    obtain ⟨a, b⟩ := st' k p hp'
    have hm := List.mem_of_getElem? hp'
    rw [if_pos (List.getElem?_eq_some_iff.mp hp').1] at a
    rw [if_neg (Nat.not_lt_zero k)]
    exact ⟨a.at' fun o e => up _ _ (S.ap p hm).1 e, b.at' fun o e => up _ _ (S.ap p hm).2.2.2.1 e⟩
/-- the end, the tuple in the zip's own hands -/
theorem zf_end_own {Q : Fin → Shared → Prop} {s : Shared} {p : Addr × Addr × Array Value} {j0 : Nat} {x0 f : Value} (S : ZnSep z TI TO L) (hh : A.handled = none) (hz : IsZipF s.heap z TI TO x0 f) (hown : ∀ (Q : Bool → Shared → Prop), Q true s → wpAny (model prog w) A (Builtin.SmallTypes.ownedTupleIsFree (.ref z)) Q E s) (hTI : IsTupA s.heap TI (L.map fun p => Value.ref p.1).toArray) (hTO : ∃ arr, IsTupA s.heap TO arr ∧ arr.size = L.length) (st : ZfAt fl L i 0 s.heap) (hp0 : L[j0]? = some p) (hend : i = p.2.2.size) (hlt : ∀ k < j0, ∀ q, L[k]? = some q → i < q.2.2.size) (hL2 : L.length ≤ 1000)
    (hE : ∀ h' tk e, (∀ c o, c ≠ z → c ≠ TO → (∀ p ∈ L, c ≠ p.1) → s.heap.get? c = some o → h'.get? c = some o) → (∃ o, h'.get? e = some o ∧ o.cls = .type "StopIteration") → E (.ref e) { s with heap := h', toks := tk }) :
    wpAny (model prog w) A (Builtin.«zip.__next__» ⟨[.ref z], []⟩) Q E s := by
  obtain ⟨hp, g, d, tk, os⟩ := s
  have hm := List.mem_of_getElem? hp0
  have hj0 : j0 < L.length := (List.getElem?_eq_some_iff.mp hp0).1
  show wpAny _ _ (field (.ref z) 2 >>= _) _ _ _
  refine wpAny_bind (wpAny_field hz rfl (x := .bool false) rfl ?_)
  show wpAny _ _ (field (.ref z) 3 >>= _) _ _ _
  refine wpAny_bind (wpAny_field hz rfl (x := .ref TI) rfl ?_)
  refine wpAny_bind (wpAny_seqItems hTI rfl ?_)
  have ne : (L.map fun p => Value.ref p.1).toArray.isEmpty = false := by
    cases L with
    | nil => simp at hp0
    | cons p L => simp
  show wpAny _ _ (if (L.map fun p => Value.ref p.1).toArray.isEmpty = true then _ else _) _ _ _
  rw [ne, if_neg Bool.false_ne_true]
  show wpAny _ _ (Builtin.SmallTypes.ownedTupleIsFree (.ref z) >>= _) _ _ _
  refine wpAny_bind (hown _ ?_)
  simp only [if_true]
  refine wpAny_bind (wpAny_rule ?_)
  refine wpAny_bind (wpAny_field hz rfl (x := .ref TO) rfl ?_)
  refine wpAny_bind (wpAny_setField_rec hz (by simp) fun g0 hz0 hs0 => ?_)
  replace hz0 : IsZipF g0 z TI TO .ellipsis f := hz0
  replace hs0 : Heap.SameBut z hp g0 := hs0
  refine wpAny_bind ?_
  obtain ⟨arr, hTO, asz⟩ := hTO
  have hTO0 : IsTupA g0 TO arr := hs0.extBut _ _ S.TOz hTO
  refine forIn_st (M := model prog w) (fun _ => ((none : Option Fin), ())) (fun j s' => j ≤ j0 ∧ ∃ g' tk' arr, s' = ⟨g', g, d, tk', os⟩ ∧ IsZipF g' z TI TO .ellipsis f ∧ ZfAt fl L i j g' ∧ IsTupA g' TO arr ∧ arr.size = L.length ∧ ∀ c o, c ≠ z → c ≠ TO → (∀ p ∈ L, c ≠ p.1) → hp.get? c = some o → g'.get? c = some o) ((L.map fun p => Value.ref p.1).zipIdx) 0 _ ⟨Nat.zero_le _, g0, tk, arr, rfl, hz0, ?_, hTO0, asz, fun c o cz _ _ e => hs0.extBut _ _ cz e⟩ ?_ ?_
  · exact zf_keepAt st fun p hm c hc o e => hs0.extBut _ _ (by rcases hc with rfl | rfl; exact (S.ap p hm).1; exact (S.ap p hm).2.2.2.1) e
  · rintro j x _ Q hx ⟨hj, g', tk', arr, rfl, hz', st', hTO', asz', kp'⟩ q
    rw [Nat.zero_add] at *
    rw [List.getElem?_zipIdx, List.getElem?_map] at hx
    simp only [Option.map_map, Option.map_eq_some_iff, Nat.zero_add, Function.comp_def] at hx
    obtain ⟨p', hpj, rfl⟩ := hx
    have hm' := List.mem_of_getElem? hpj
    refine wpAny_bind (wpAny_onRaise ?_)
    show wpAny _ _ (Builtin.SmallTypes.nextOf (.ref p'.1) >>= _) _ _ _
    by_cases hjj : j < j0
    · refine wpAny_bind (zf_draw S hh st' hpj (hlt j hjj p' hpj) fun h' tk2 st2 sb => wpAny_pure ?_)
      have hTO2 : IsTupA h' TO arr := sb.extBut _ _ (S.ap p' hm').2.2.1.symm hTO'
      refine wpAny_bind (wpAny_seqItems (s := ⟨h', g, d, tk2, os⟩) hTO2 rfl ?_)
      have up := Heap.get?_update_self (Obj.mapSeq fun x => x.setIfInBounds j (p'.2.2.getD i .none)) hTO2 rfl
      have sbu : Heap.SameBut TO h' (h'.update TO (Obj.mapSeq fun x => x.setIfInBounds j (p'.2.2.getD i .none))) := Heap.SameBut.update ..
      refine wpAny_bind (wpAny_updateSeq (s := ⟨h', g, d, tk2, os⟩) hTO2 rfl ?_ (by rw [asz']; exact Nat.le_trans hL2 (by decide)) (by rw [Array.size_setIfInBounds, asz']; exact Nat.le_trans hL2 (by decide)))
      generalize hu : h'.update TO (Obj.mapSeq fun x => x.setIfInBounds j (p'.2.2.getD i .none)) = u at up sbu ⊢
      refine wpAny_bind (wpAny_letGo (wpAny_pure ?_))
      refine q _ ⟨by omega, u, tk2, arr.setIfInBounds j (p'.2.2.getD i .none), rfl, sbu.extBut _ _ S.TOz.symm (sb.extBut _ _ (S.ap p' hm').1.symm hz'), ?_, ?_, by simp [asz'], fun c o cz cT cp e => sbu.extBut _ _ cT (sb.extBut _ _ (cp p' hm') (kp' c o cz cT cp e))⟩
      · exact zf_keepAt st2 fun p' hm' c hc o e => sbu.extBut _ _ (by rcases hc with rfl | rfl; exact (S.ap p' hm').2.2.1; exact (S.ap p' hm').2.2.2.2) e
      · show u.get? TO = _
        rw [up]; simp [Obj.mapSeq]
    · obtain rfl : j = j0 := by omega
      obtain rfl : p' = p := by rw [hp0] at hpj; exact (Option.some.inj hpj).symm
      have D := draws_s (prog := prog) (w := w) hh (fl p'.1) p'.1 p'.2.1 (S.ia p' hm p' hm) p'.2.2
      obtain ⟨s1, s2⟩ := st' j p' hp0
      rw [if_neg (Nat.lt_irrefl j)] at s1
      refine wpAny_bind (D.done ⟨g', g, d, tk', os⟩ _ _ (by rw [← hend]; exact ⟨s1, s2⟩) fun q e hq he => ?_)
      replace hq : Heap.ExtBut p'.1 g' q := hq
      obtain ⟨oe, hoe, hce⟩ := he
      replace hoe : q.get? e = some oe := hoe
      have hzq : IsZipF q z TI TO .ellipsis f := hq _ _ (S.ap p' hm).1.symm hz'
      have hez : e ≠ z := fun x => by subst x; rw [hzq] at hoe; cases hoe; simp at hce
      refine wpAny_setField_rec (s := ⟨q, g, d, tk', os⟩) hzq (by simp) fun q' _ hq' => ?_
      replace hq' : Heap.SameBut z q q' := hq'
      exact hE q' tk' e (fun c o cz cT cp x => hq'.extBut _ _ cz (hq _ _ (cp p' hm) (kp' c o cz cT cp x))) ⟨oe, hq'.extBut _ _ hez hoe, hce⟩
  · rintro _ ⟨hj, _⟩
    rw [Nat.zero_add, List.length_zipIdx, List.length_map] at hj
    omega
/-- the end, the former tuple still out -/
theorem zf_end_out {Q : Fin → Shared → Prop} {s : Shared} {x0 f : Value} {p : Addr × Addr × Array Value} {j0 : Nat} (S : ZnSep z TI TO L) (hh : A.handled = none) (hz : IsZipF s.heap z TI TO x0 f) (hTI : IsTupA s.heap TI (L.map fun p => Value.ref p.1).toArray) (st : ZfAt fl L i 0 s.heap) (hp0 : L[j0]? = some p) (hend : i = p.2.2.size) (hlt : ∀ k < j0, ∀ q, L[k]? = some q → i < q.2.2.size)
    (hfree : ∀ (Q : Bool → Shared → Prop), (∀ h' (f' : Bool), IsZipF h' z TI TO x0 (.bool f') → Heap.SameBut z s.heap h' → Q false { s with heap := h' }) → wpAny (model prog w) A (Builtin.SmallTypes.ownedTupleIsFree (.ref z)) Q E s)
    (hE : ∀ h' tk e, (∀ c o, c ≠ z → c ≠ TO → (∀ p ∈ L, c ≠ p.1) → s.heap.get? c = some o → h'.get? c = some o) → (∃ o, h'.get? e = some o ∧ o.cls = .type "StopIteration") → E (.ref e) { s with heap := h', toks := tk }) :
    wpAny (model prog w) A (Builtin.«zip.__next__» ⟨[.ref z], []⟩) Q E s := by
  have hm := List.mem_of_getElem? hp0
  have hj0 : j0 < L.length := (List.getElem?_eq_some_iff.mp hp0).1
  show wpAny _ _ (field (.ref z) 2 >>= _) _ _ _
  refine wpAny_bind (wpAny_field hz rfl (x := .bool false) rfl ?_)
  show wpAny _ _ (field (.ref z) 3 >>= _) _ _ _
  refine wpAny_bind (wpAny_field hz rfl (x := .ref TI) rfl ?_)
  refine wpAny_bind (wpAny_seqItems hTI rfl ?_)
  have ne : (L.map fun p => Value.ref p.1).toArray.isEmpty = false := by
    cases L with
    | nil => simp at hp0
    | cons p L => simp
  show wpAny _ _ (if (L.map fun p => Value.ref p.1).toArray.isEmpty = true then _ else _) _ _ _
  rw [ne, if_neg Bool.false_ne_true]
  show wpAny _ _ (Builtin.SmallTypes.ownedTupleIsFree (.ref z) >>= _) _ _ _
  refine wpAny_bind (hfree _ fun h₁ f' hz₁ hs₁ => ?_)
  simp only [Bool.false_eq_true, if_false]
  refine wpAny_bind ?_
  rw [← Array.forIn_toList]
  have eT : (L.map fun p => Value.ref p.1).toArray.toList = L.map fun p => Value.ref p.1 := by simp
  rw [eT]
  obtain ⟨hp, g, d, tk, os⟩ := s
  refine forIn_st (M := model prog w) (fun j => ((none : Option Fin), ((ZnVal L i).take j).toArray)) (fun j s' => j ≤ j0 ∧ ∃ g' tk', s' = ⟨g', g, d, tk', os⟩ ∧ ZfAt fl L i j g' ∧ ∀ c o, c ≠ z → (∀ p ∈ L, c ≠ p.1) → hp.get? c = some o → g'.get? c = some o) (L.map fun p => Value.ref p.1) 0 _ ⟨Nat.zero_le _, h₁, tk, rfl, ?_, fun c o cz _ e => hs₁.extBut _ _ cz e⟩ ?_ ?_
  · exact zf_keepAt st fun p hm c hc o e => hs₁.extBut _ _ (by rcases hc with rfl | rfl; exact (S.ap p hm).1; exact (S.ap p hm).2.2.2.1) e
  · rintro j x _ Q hx ⟨hj, g', tk', rfl, st', kp'⟩ q
    rw [Nat.zero_add] at *
    simp only [List.getElem?_map, Option.map_eq_some_iff] at hx
    obtain ⟨p', hpj, rfl⟩ := hx
    have hm' := List.mem_of_getElem? hpj
    refine wpAny_bind (wpAny_holding ?_)
    show wpAny _ _ (Builtin.SmallTypes.nextOf (.ref p'.1) >>= _) _ _ _
    by_cases hjj : j < j0
    · refine wpAny_bind (zf_draw S hh st' hpj (hlt j hjj p' hpj) fun h' tk2 st2 sb => wpAny_pure (wpAny_pure ?_))
      have e2 : ((ZnVal L i).take j).toArray.push (p'.2.2.getD i .none) = ((ZnVal L i).take (j + 1)).toArray := by
        rw [take_next (znVal_get hpj)]; simp
      rw [e2]
      exact q _ ⟨by omega, h', tk2, rfl, st2, fun c o cz cp e => sb.extBut _ _ (cp p' hm') (kp' c o cz cp e)⟩
    · obtain rfl : j = j0 := by omega
      obtain rfl : p' = p := by rw [hp0] at hpj; exact (Option.some.inj hpj).symm
      have D := draws_s (prog := prog) (w := w) hh (fl p'.1) p'.1 p'.2.1 (S.ia p' hm p' hm) p'.2.2
      obtain ⟨s1, s2⟩ := st' j p' hp0
      rw [if_neg (Nat.lt_irrefl j)] at s1
      refine wpAny_bind (D.done ⟨g', g, d, tk', os⟩ _ _ (by rw [← hend]; exact ⟨s1, s2⟩) fun q e hq he => ?_)
      exact hE q tk' e (fun c o cz cT cp x => hq _ _ (cp p' hm) (kp' c o cz cp x)) he
  · rintro _ ⟨hj, _⟩
    rw [Nat.zero_add, List.length_map] at hj
    omega
/-- a zip between two turns -/
def ZfSt (fl : Addr → Bool) (z TI TO : Addr) (L : List (Addr × Addr)) (i : Nat) (h : Heap) : Prop :=
  (∃ (f : Bool), IsZipF h z TI TO .none (.bool f) ∨ ∃ T : Addr, IsZipF h z TI TO (rawInt T) (.bool f)) ∧ IsTupA h TI (L.map fun p => Value.ref p.1).toArray ∧ (∃ arr, IsTupA h TO arr ∧ arr.size = L.length) ∧ ∀ p ∈ L, IterAt h (fl p.1) p.1 p.2 i
theorem zf_item {Q : Value → Shared → Prop} {s : Shared} (S : ZnSep z TI TO L) (hh : A.in1.handled = none) (st : ZfSt fl z TI TO (L.map fun p => (p.1, p.2.1)) i s.heap) (hs : ∀ p ∈ L, PlainS s.heap (fl p.1) p.2.1 p.2.2) (hlt : ∀ p ∈ L, i < p.2.2.size) (hL : 0 < L.length) (hL2 : L.length ≤ 1000)
    (hQ : ∀ h' tk, ZfSt fl z TI TO (L.map fun p => (p.1, p.2.1)) (i + 1) h' → IsTupA h' s.heap.objs.size (ZnVal L i).toArray → h'.objs.size = s.heap.objs.size + 1 →
      (∀ c o, c ≠ z → c ≠ TO → (∀ p ∈ L, c ≠ p.1) → s.heap.get? c = some o → h'.get? c = some o) → Q (.ref s.heap.objs.size) { s with heap := h', toks := tk }) : wpAny (model prog w) A (Builtin.SmallTypes.nextOf (.ref z)) Q E s := by
  obtain ⟨⟨f, hz⟩, hTI, hTO, hit⟩ := st
  have eT : ((L.map fun p => (p.1, p.2.1)).map fun p => Value.ref p.1) = L.map fun p => Value.ref p.1 := by simp
  have eL : (L.map fun p => (p.1, p.2.1)).length = L.length := by simp
  rw [eT] at hTI
  rw [eL] at hTO
  have at0 : ZfAt fl L i 0 s.heap := fun k p hp => by
    have hm := List.mem_of_getElem? hp
    rw [if_neg (Nat.not_lt_zero k)]
    exact ⟨hit _ (List.mem_map.mpr ⟨p, hm, rfl⟩), hs p hm⟩
  have hTy : s.TypeIs (.ref z) "zip" := by rcases hz with hz | ⟨T, hz⟩ <;> exact ⟨_, hz, rfl⟩
  have back : ∀ h', ZfAt fl L (i + 1) 0 h' → ∀ p ∈ (L.map fun p => (p.1, p.2.1)), IterAt h' (fl p.1) p.1 p.2 (i + 1) := fun h' a p hp => by
    obtain ⟨q, hq, rfl⟩ := List.mem_map.mp hp
    obtain ⟨k, hk, e⟩ := List.getElem_of_mem hq
    have := (a k q (by rw [List.getElem?_eq_getElem hk, e])).1
    rwa [if_neg (Nat.not_lt_zero k)] at this
  unfold Builtin.SmallTypes.nextOf
  refine wpAny_bind (wpAny_callSpecial?_slot (name := Str.ofString "__next__") hTy F.slot_zip_next (wpAny_call_entry F.slot_zip_next hTy F.entry_zip_next ?_ (F.args_zip_next_1 _)))
  have own : ∀ x0 : Value, IsZipF s.heap z TI TO x0 (.bool f) → (∀ {E2 : Value → Shared → Prop} (Q : Bool → Shared → Prop), Q true s → wpAny (model prog w) A.in1 (Builtin.SmallTypes.ownedTupleIsFree (.ref z)) Q E2 s) → ∀ {E2 : Value → Shared → Prop}, wpAny (model prog w) A.in1 (Builtin.«zip.__next__» ⟨[.ref z], []⟩) (fun fin s' => ∃ v, fin = .done (.ret v) ∧ wpAny (model prog w) A (pure v) Q E s') E2 s := fun x0 hz hown {E2} =>
    zf_next_own S hh hz (fun Q q => hown Q q) hTI hTO at0 hlt hL hL2 fun h' tk hz' at' hTO' hT hsz kp => wpAny_pure (hQ h' tk ⟨⟨false, .inr ⟨_, hz'⟩⟩, by rw [eT]; exact kp _ _ S.TIz S.TITO (fun p hp => (S.ap p hp).2.1.symm) hTI, by rw [eL]; exact hTO', back h' at'⟩ hT hsz kp)
  rcases hz with hz | ⟨T, hz⟩
  · exact own _ hz fun Q q => zn_own_none hz Q q
  · cases hT : s.heap.get? T with
    | none => exact own _ hz fun Q q => zn_own_gone hz hT Q q
    | some oT =>
      refine zf_next_out S hh hz hTI at0 hlt hL hL2 (fun Q q => zn_free_out hz hT q) fun h' tk f' hz' at' hTT hsz kp => wpAny_pure (hQ h' tk ⟨?_, by rw [eT]; exact kp _ _ S.TIz (fun p hp => (S.ap p hp).2.1.symm) hTI, ?_, back h' at'⟩ hTT hsz fun c o cz cT cp e => kp c o cz cp e)
      · exact ⟨f', .inr ⟨T, hz'⟩⟩
      · obtain ⟨arr, a1, a2⟩ := hTO
        exact ⟨arr, kp _ _ S.TOz (fun p hp => (S.ap p hp).2.2.1.symm) a1, by rw [eL]; exact a2⟩
theorem zf_stop {Q : Value → Shared → Prop} {s : Shared} {p : Addr × Addr × Array Value} {j0 : Nat} (S : ZnSep z TI TO L) (hh : A.in1.handled = none) (st : ZfSt fl z TI TO (L.map fun p => (p.1, p.2.1)) i s.heap) (hs : ∀ p ∈ L, PlainS s.heap (fl p.1) p.2.1 p.2.2) (hp0 : L[j0]? = some p) (hend : i = p.2.2.size) (hlt : ∀ k < j0, ∀ q, L[k]? = some q → i < q.2.2.size) (hL2 : L.length ≤ 1000)
    (hE : ∀ h' tk e, (∀ c o, c ≠ z → c ≠ TO → (∀ p ∈ L, c ≠ p.1) → s.heap.get? c = some o → h'.get? c = some o) → (∃ o, h'.get? e = some o ∧ o.cls = .type "StopIteration") → E (.ref e) { s with heap := h', toks := tk }) : wpAny (model prog w) A (Builtin.SmallTypes.nextOf (.ref z)) Q E s := by
  obtain ⟨⟨f, hz⟩, hTI, hTO, hit⟩ := st
  have eT : ((L.map fun p => (p.1, p.2.1)).map fun p => Value.ref p.1) = L.map fun p => Value.ref p.1 := by simp
  have eL : (L.map fun p => (p.1, p.2.1)).length = L.length := by simp
  rw [eT] at hTI
  rw [eL] at hTO
  have at0 : ZfAt fl L i 0 s.heap := fun k p hp => by
    have hm := List.mem_of_getElem? hp
    rw [if_neg (Nat.not_lt_zero k)]
    exact ⟨hit _ (List.mem_map.mpr ⟨p, hm, rfl⟩), hs p hm⟩
  have hTy : s.TypeIs (.ref z) "zip" := by rcases hz with hz | ⟨T, hz⟩ <;> exact ⟨_, hz, rfl⟩
  unfold Builtin.SmallTypes.nextOf
  refine wpAny_bind (wpAny_callSpecial?_slot (name := Str.ofString "__next__") hTy F.slot_zip_next (wpAny_call_entry F.slot_zip_next hTy F.entry_zip_next ?_ (F.args_zip_next_1 _)))
  rcases hz with hz | ⟨T, hz⟩
  · exact zf_end_own S hh hz (fun Q q => zn_own_none hz Q q) hTI hTO at0 hp0 hend hlt hL2 hE
  · cases hT : s.heap.get? T with
    | none => exact zf_end_own S hh hz (fun Q q => zn_own_gone hz hT Q q) hTI hTO at0 hp0 hend hlt hL2 hE
    | some oT => exact zf_end_out S hh hz hTI at0 hp0 hend hlt (fun Q q => zn_free_out hz hT q) hE
end
end DL

namespace DL
open PySem PySem.Spec L2
open PyProof.Rows hiding St
section
variable {prog : Program} {w : World} {A : Around} {E : Value → Shared → Prop}
/-- next of an enumerate over any iterator -/
theorem ez_item {e it : Addr} {c : Int} {old : Value} {Q : Option Value → Shared → Prop} {Y : Value → Heap → Prop} {s : Shared} (he : IsEnum s.heap e it c old)
    (nx : ∀ (Q' : Value → Shared → Prop) (E' : Value → Shared → Prop), (∀ x k tk, Y x k → IsEnum k e it c old → Q' x { s with heap := k, toks := tk }) → wpAny (model prog w) A.in1 (Builtin.SmallTypes.nextOf (.ref it)) Q' E' s)
    (hQ : ∀ x k k' tk, Y x k → IsEnumOut k' e it (c + 1) x k.objs.size → k'.get? k.objs.size = some { cls := .type "tuple", data := .seq #[.int c tk, x] } → k'.objs.size = k.objs.size + 1 → (∀ b o, b ≠ e → k.get? b = some o → k'.get? b = some o) → Q (some (.ref k.objs.size)) { s with heap := k', toks := tk + 1 }) :
    wpAny (model prog w) A (pyNext (.ref e)) Q E s := by
  have ty : s.TypeIs (.ref e) "enumerate" := ⟨_, he, rfl⟩
  unfold pyNext
  refine wpAny_bind (wpAny_attempt (wpAny_callSpecial?_slot (name := Str.ofString "__next__") ty F.slot_enumerate_next (wpAny_call_entry F.slot_enumerate_next ty F.entry_enumerate_next ?_ (F.args_enumerate_next_1 _))))
  obtain ⟨hp, g, d, tk0, os⟩ := s
  show wpAny _ _ (field (.ref e) 2 >>= fun _ => _) _ _ _
  refine wpAny_bind (wpAny_field he rfl (x := .ref it) rfl (wpAny_bind (nx _ _ fun x k tk hY k0 => ?_)))
  show wpAny _ _ (field (.ref e) 3 >>= fun _ => _) _ _ ⟨k, g, d, tk, os⟩
  refine wpAny_bind (wpAny_field k0 rfl (x := rawInt c) rfl ?_)
  show wpAny _ _ (field (.ref e) 4 >>= fun _ => _) _ _ ⟨k, g, d, tk, os⟩
  refine wpAny_bind (wpAny_field k0 rfl (x := .none) rfl ?_)
  show wpAny _ _ (mkInt c >>= fun _ => _) _ _ ⟨k, g, d, tk, os⟩
  refine wpAny_bind (wpAny_mkInt ?_)
  show wpAny _ _ (setField (.ref e) 3 (rawInt (c + 1)) >>= fun _ => _) _ _ ⟨k, g, d, tk + 1, os⟩
  refine wpAny_bind (wpAny_setField_rec k0 (by simp) fun m2 k2 b2 => ?_)
  replace b2 : Heap.SameBut e k m2 := b2
  replace k2 : IsEnum m2 e it (c + 1) old := k2
  show wpAny _ _ (setField (.ref e) 4 .none >>= fun _ => _) _ _ ⟨m2, g, d, tk + 1, os⟩
  refine wpAny_bind (wpAny_setField_rec k2 (by simp) fun m3 k3 b3 => ?_)
  replace b3 : Heap.SameBut e m2 m3 := b3
  replace k3 : IsEnum m3 e it (c + 1) old := k3
  show wpAny _ _ (newTuple [.int c tk, x] >>= fun _ => _) _ _ ⟨m3, g, d, tk + 1, os⟩
  refine wpAny_bind (wpAny_newTuple ?_)
  have k4 : IsEnum (m3.push { cls := .type "tuple", data := .seq #[.int c tk, x] }) e it (c + 1) old := Heap.get?_push_of_some _ k3
  generalize em : m3.push { cls := .type "tuple", data := .seq #[.int c tk, x] } = m4 at k4
  have zz : m3.objs.size = k.objs.size := by rw [b3.1, b2.1]
  have t4 : m4.get? k.objs.size = some { cls := .type "tuple", data := .seq #[.int c tk, x] } := by rw [← em, ← zz]; exact Heap.get?_push_size _ rfl
  have z4 : m4.objs.size = k.objs.size + 1 := by rw [← em, Heap.size_push, zz]
  have o4 : ∀ b o, b ≠ e → k.get? b = some o → m4.get? b = some o := fun b o n y => by
    rw [← em]; exact Heap.get?_push_of_some _ (b3.extBut b o n (b2.extBut b o n y))
  have le : @LT.lt Nat _ e k.objs.size := Heap.lt_size k0
  show wpAny _ _ (Builtin.SmallTypes.ownedTupleIsFree (.ref e) >>= fun _ => _) _ _ ⟨m4, g, d, tk + 1, os⟩
  rw [zz]
  clear em k3 b3 k2 b2 zz m3 m2
  refine wpAny_bind ?_
  unfold Builtin.SmallTypes.ownedTupleIsFree
  refine wpAny_bind (wpAny_field k4 rfl (x := .none) rfl (wpAny_pure ?_))
  simp only [if_true]
  refine wpAny_bind (wpAny_rule (wpAny_bind (wpAny_field k4 rfl (x := old) rfl (wpAny_bind (wpAny_setField_rec k4 (by simp) fun m5 k5 b5 => ?_)))))
  replace b5 : Heap.SameBut e m4 m5 := b5
  replace k5 : IsEnum m5 e it (c + 1) x := k5
  show wpAny _ _ (Builtin.SmallTypes.ownedTupleHandOut (.ref e) (.ref k.objs.size) >>= fun _ => _) _ _ ⟨m5, g, d, tk + 1, os⟩
  refine wpAny_bind ?_
  unfold Builtin.SmallTypes.ownedTupleHandOut
  refine wpAny_bind (wpAny_setField_rec k5 (by simp) fun m6 k6 b6 => ?_)
  replace b6 : Heap.SameBut e m5 m6 := b6
  replace k6 : IsEnumOut m6 e it (c + 1) x k.objs.size := k6
  refine wpAny_setField_rec k6 (by simp) fun m7 k7 b7 => ?_
  replace b7 : Heap.SameBut e m6 m7 := b7
  replace k7 : IsEnumOut m7 e it (c + 1) x k.objs.size := k7
  have up : ∀ b o, b ≠ e → m4.get? b = some o → m7.get? b = some o := fun b o n y => b7.extBut b o n (b6.extBut b o n (b5.extBut b o n y))
  refine wpAny_bind (wpAny_letGo (wpAny_pure ⟨_, rfl, ?_⟩))
  exact wpAny_pure (hQ x k m7 tk hY k7 (up _ _ (Nat.ne_of_gt le) t4) (by rw [b7.1, b6.1, b5.1, z4]) fun b o n y => up b o n (o4 b o n y))
/-- its end -/
theorem ez_stop {e it : Addr} {c : Int} {old : Value} {Q : Option Value → Shared → Prop} {s : Shared} (he : IsEnum s.heap e it c old) {G : Heap → Prop}
    (nx : ∀ (Q' : Value → Shared → Prop) (E' : Value → Shared → Prop), (∀ k tk x, G k → (∃ o, k.get? x = some o ∧ o.cls = .type "StopIteration") → E' (.ref x) { s with heap := k, toks := tk }) → wpAny (model prog w) A.in1 (Builtin.SmallTypes.nextOf (.ref it)) Q' E' s)
    (hQ : ∀ k tk, G k → Q none { s with heap := k, toks := tk }) : wpAny (model prog w) A (pyNext (.ref e)) Q E s := by
  have ty : s.TypeIs (.ref e) "enumerate" := ⟨_, he, rfl⟩
  unfold pyNext
  refine wpAny_bind (wpAny_attempt (wpAny_callSpecial?_slot (name := Str.ofString "__next__") ty F.slot_enumerate_next (wpAny_call_entry F.slot_enumerate_next ty F.entry_enumerate_next ?_ (F.args_enumerate_next_1 _))))
  show wpAny _ _ (field (.ref e) 2 >>= fun _ => _) _ _ _
  refine wpAny_bind (wpAny_field he rfl (x := .ref it) rfl (wpAny_bind (nx _ _ fun k tk x hG hx => ?_)))
  obtain ⟨o, ho, hc⟩ := hx
  exact wpAny_bind (wpAny_isInstance (T := "StopIteration") (b := true) ⟨o, ho, hc⟩ isSubtype_stop (wpAny_pure (hQ k tk hG)))
end
end DL

namespace PySem
open Sem (wp)
theorem ez_meets {z TI TO : Addr} :
    Meets (Builtin.«enumerate.__new__» ⟨[.type "enumerate", .ref z], []⟩) (fun _ R s => IsZip s.heap z TI TO .none ∧
      R (.ok (.ret (.ref s.heap.objs.size))) { s with heap := s.heap.push { cls := .type "enumerate", data := .fields #[.none, .bool false, .ref z, rawInt 0, .none, .none] } }) :=
  .of_wp fun prog w A R s h => by
    obtain ⟨hp, g, d, tk, os⟩ := s; obtain ⟨h1, h⟩ := h
    have hsub := sub_enumerate
    have q1 : ∀ {A' : Around} {E : Value → Shared → Prop} {Q : Value → Shared → Prop}, Q (.ref z) ⟨hp, g, d, tk, os⟩ → wpAny (model prog w) A' (pyIter (.ref z)) Q E ⟨hp, g, d, tk, os⟩ :=
      fun q => wpAny_pyIter_zip h1 q
    wp_walk
    refine wpAny_stack_any fun st => wpAny_pure ?_
    split
    · rename_i c _ _ _ _ _
      cases (c == Value.type "enumerate")
      · wp_walk using q1
        exact ⟨_, rfl, h⟩
      · wp_walk using q1
        exact ⟨_, rfl, h⟩
    · wp_walk using q1
      exact ⟨_, rfl, h⟩
/-- enumerate(z) of a zip: one new cell -/
theorem ez_begins {prog : Program} {w : World} {A : Around} {E : Value → Shared → Prop} {s : Shared} {z TI TO : Addr} {Q : Value → Shared → Prop} (hz : IsZip s.heap z TI TO .none)
    (q : ∀ k, IsEnum k s.heap.objs.size z 0 .none → (∀ b o, s.heap.get? b = some o → k.get? b = some o) → Q (.ref s.heap.objs.size) { s with heap := k }) : wpAny (model prog w) A (call (.type "enumerate") [.ref z]) Q E s := by
  refine callType_new F.called_enumerate (by decide) (F.typeCall_enumerate_1 _) (F.newCall_enumerate_1 _) (fun obj => F.args_object_init_2 obj _) F.entry_enumerate_new (ez_meets (TI := TI) (TO := TO)) ⟨hz, ?_⟩
  show _ ∧ _
  have he : IsEnum (s.heap.push { cls := .type "enumerate", data := .fields #[.none, .bool false, .ref z, rawInt 0, .none, .none] }) s.heap.objs.size z 0 .none := Heap.get?_push_size _ rfl
  exact ⟨⟨_, he, rfl⟩, q _ he fun b o x => Heap.get?_push_of_some _ x⟩
end PySem
namespace DL
open PySem PySem.Spec L2
open PyProof.Rows hiding St
theorem ZfSt.keep {fl : Addr → Bool} {z TI TO : Addr} {Lia : List (Addr × Addr)} {i : Nat} {h h' : Heap} (st : ZfSt fl z TI TO Lia i h) (k : ∀ b ∈ z :: TI :: TO :: Lia.map (·.1), ∀ o, h.get? b = some o → h'.get? b = some o) : ZfSt fl z TI TO Lia i h' := by
  obtain ⟨⟨f, hz⟩, hTI, ⟨arr, hTO, ha⟩, hit⟩ := st
  refine ⟨⟨f, ?_⟩, k TI (by simp) _ hTI, ⟨arr, k TO (by simp) _ hTO, ha⟩, fun p hp => (hit p hp).at' fun o q => k p.1 (by simp only [List.mem_cons]; exact .inr (.inr (.inr (List.mem_map.mpr ⟨p, hp, rfl⟩)))) o q⟩
  rcases hz with hz | ⟨T, hz⟩
  · exact .inl (k z (by simp) _ hz)
  · exact .inr ⟨T, k z (by simp) _ hz⟩
theorem ZfSt.obj {fl : Addr → Bool} {z TI TO : Addr} {Lia : List (Addr × Addr)} {i : Nat} {h : Heap} (st : ZfSt fl z TI TO Lia i h) : ∀ c ∈ z :: TI :: TO :: Lia.map (·.1), ∃ o, h.get? c = some o ∧ ∀ v, o.data ≠ .cell v := by
  intro c hc
  obtain ⟨⟨f, hz⟩, hTI, ⟨arr, hTO, _⟩, hit⟩ := st
  rcases List.mem_cons.mp hc with rfl | hc
  · rcases hz with hz | ⟨T, hz⟩ <;> exact ⟨_, hz, fun v q => nomatch q⟩
  · rcases List.mem_cons.mp hc with rfl | hc
    · exact ⟨_, hTI, fun v q => nomatch q⟩
    · rcases List.mem_cons.mp hc with rfl | hc
      · exact ⟨_, hTO, fun v q => nomatch q⟩
      · obtain ⟨p, hp, rfl⟩ := List.mem_map.mp hc
        exact (hit p hp).obj
def ItEZ (K : PySem.W.Frag) (t1 t2 : Bool) (a b : Addr) : It :=
  ⟨fun i H => ∃ (xs ys : List V) (x y : V), SqS K H t1 a xs ∧ SqS K H t2 b ys ∧ xs[i]? = some x ∧ ys[i]? = some y,
    fun i H v H' => ∃ T U x y, v = .ref U ∧ H T = none ∧ (upd H T (.tup [x, y])) U = none ∧ H' = upd (upd H T (.tup [x, y])) U (.tup [.int (i : Nat), .ref T]) ∧ (∀ xs, SqS K H t1 a xs → xs[i]? = some x) ∧ ∀ ys, SqS K H t2 b ys → ys[i]? = some y,
    fun i H => ∃ xs ys : List V, SqS K H t1 a xs ∧ SqS K H t2 b ys ∧ i = min xs.length ys.length⟩
theorem turn_enumZ {P : Program} {w : World} {K : PySem.W.Frag} {elts : List Expr} {kk : Nat} {tpos : Pos} {t1 t2 : Bool} {a b e z TI TO i1 i2 : Addr} (hS : ∀ L : ZL, L.map (fun p => (p.1, p.2.1)) = [(i1, a), (i2, b)] → ZnSep z TI TO L) (he5 : e ∉ [z, TI, TO, i1, i2]) :
    Turn P w K (.Tuple elts kk tpos) (ItEZ K t1 t2 a b) [e, z, TI, TO, i1, i2] e (fun i h => (∃ old, IsEnum h e z ((i : Nat) : Int) old) ∧ ZfSt (fun c => if c = i1 then t1 else t2) z TI TO [(i1, a), (i2, b)] i h) where
  mem := by simp
  obj := fun i h st c hc => by
    obtain ⟨⟨old, he⟩, st⟩ := st
    rcases List.mem_cons.mp hc with rfl | hc
    · exact ⟨_, he, fun v q => nomatch q⟩
    · exact st.obj c hc
  keep := fun i h h' st k => by
    obtain ⟨⟨old, he⟩, st⟩ := st
    exact ⟨⟨old, k e (by simp) _ he⟩, st.keep fun b hb o q => k b (List.mem_cons_of_mem _ hb) o q⟩
  item := by
    intro X hP hw hK hc i pins s σ H E I hf st hg
    subst hP hw hK
    obtain ⟨⟨old, he⟩, st⟩ := id st
    obtain ⟨xs, ys, x, y, hqx, hqy, hx, hy⟩ := hg
    obtain ⟨its, rv, p, _, _⟩ := inv_s I hqx
    obtain ⟨its2, rv2, p2, _, _⟩ := inv_s I hqy
    obtain ⟨u, hu, ru⟩ := rv.get hx
    obtain ⟨u2, hu2, ru2⟩ := rv2.get hy
    have l1 : i < its.toArray.size := by simpa using (List.getElem?_eq_some_iff.mp hu).1
    have l2 : i < its2.toArray.size := by simpa using (List.getElem?_eq_some_iff.mp hu2).1
    have S := hS [(i1, a, its.toArray), (i2, b, its2.toArray)] rfl
    have n21 : i2 ≠ i1 := by
      have := S.nd
      simp at this
      exact fun q => this q.symm
    have hh : X.A.in1.in1.handled = none := I.ok.hd hc
    have ev : (ZnVal [(i1, a, its.toArray), (i2, b, its2.toArray)] i).toArray = #[u, u2] := by simp [ZnVal, hu, hu2]
    refine ez_item (Y := fun v k => v = .ref s.heap.objs.size ∧ ZfSt (fun c => if c = i1 then t1 else t2) z TI TO [(i1, a), (i2, b)] (i + 1) k ∧ IsTupA k s.heap.objs.size #[u, u2] ∧ k.objs.size = s.heap.objs.size + 1 ∧ ∀ c o, c ∉ [z, TI, TO, i1, i2] → s.heap.get? c = some o → k.get? c = some o) he (fun Q' E' q => ?_) fun v k k' tk hY eo hU sz kp => ?_
    · refine zf_item (fl := fun c => if c = i1 then t1 else t2) (L := [(i1, a, its.toArray), (i2, b, its2.toArray)]) S hh st ?_ ?_ (by simp) (by simp) fun k tk st' hT hsz kp => ?_
      · intro p hp
        simp at hp
        rcases hp with rfl | rfl
        · simpa using p
        · simp only [if_neg n21]; exact p2
      · intro p hp
        simp at hp
        rcases hp with rfl | rfl
        · exact l1
        · exact l2
      · have kp' : ∀ c o, c ∉ [z, TI, TO, i1, i2] → s.heap.get? c = some o → k.get? c = some o := fun c o hn e => kp c o (fun q => hn (by simp [q])) (fun q => hn (by simp [q])) (fun p hp q => hn (by simp at hp; rcases hp with rfl | rfl <;> simp [q])) e
        rw [ev] at hT
        exact q _ k tk ⟨rfl, st', hT, hsz, kp'⟩ (kp' _ _ he5 he)
    · obtain ⟨rfl, st', hT, hsz, kp'⟩ := hY
      refine ⟨_, rfl, wpAny_letOwnedTupleGo_enum eo fun k2 he2 sb2 => ?_⟩
      have nT := I.hok.fresh (Nat.le_refl s.heap.objs.size)
      have hTlt : s.heap.objs.size < k.objs.size := by omega
      have elt : @LT.lt Nat _ e s.heap.objs.size := Heap.lt_size he
      have new1 : ObjOk X.prog X.w (upd H s.heap.objs.size (.tup [x, y])) k s.heap.objs.size (.tup [x, y]) := ⟨by show 2 ≤ sizeLine; decide, [u, u2], .cons ru (.cons ru2 .nil), ⟨_, hT, rfl, 0, rfl⟩⟩
      have I1 : Inv X pins σ (upd H s.heap.objs.size (.tup [x, y])) { s with heap := k, toks := s.toks } := I.turnedNew (t' := s.toks) (ch := [e, z, TI, TO, i1, i2]) (fun c o hn e => kp' c o (fun q => hn (List.mem_cons_of_mem _ q)) e) hf (Nat.le_refl _) new1
      have up : ∀ c o, c ≠ e → k.get? c = some o → k2.get? c = some o := fun c o n q => sb2.extBut _ _ n (kp c o n q)
      have Une : k.objs.size ≠ e := by omega
      have hU2 : k2.get? k.objs.size = some { cls := .type "tuple", data := .seq #[.int ((i : Nat) : Int) tk, .ref s.heap.objs.size] } := sb2.extBut _ _ Une hU
      have new2 : ObjOk X.prog X.w (upd (upd H s.heap.objs.size (.tup [x, y])) k.objs.size (.tup [.int (i : Nat), .ref s.heap.objs.size])) k2 k.objs.size (.tup [.int (i : Nat), .ref s.heap.objs.size]) := ⟨by show 2 ≤ sizeLine; decide, [.int i tk, .ref s.heap.objs.size], .cons ⟨_, rfl⟩ (.cons rfl .nil), ⟨_, hU2, rfl, 0, rfl⟩⟩
      have nU : (upd H s.heap.objs.size (.tup [x, y])) k.objs.size = none := I1.hok.fresh (Nat.le_refl _)
      have efp : ∀ c ∈ [e, z, TI, TO, i1, i2], c < s.heap.objs.size := fun c hcm => by
        rcases List.mem_cons.mp hcm with rfl | hcm
        · exact elt
        · obtain ⟨o, q, _⟩ := st.obj c hcm
          exact Heap.lt_size q
      have I2 : Inv X pins σ (upd (upd H s.heap.objs.size (.tup [x, y])) k.objs.size (.tup [.int (i : Nat), .ref s.heap.objs.size])) { s with heap := k2, toks := tk + 1 } :=
        I1.turnedNew (t' := tk + 1) (ch := [e]) (fun c o hn q => up c o (fun z => hn (by simp [z])) q) (fun c hcm => by
          obtain rfl := List.mem_singleton.mp hcm
          exact FpOk.upd (hf c (by simp)) (Nat.ne_of_lt elt)) (Nat.le_refl _) new2
      refine ⟨.ref k.objs.size, _, I2, rfl, ⟨s.heap.objs.size, k.objs.size, x, y, rfl, nT, nU, rfl, fun l hl => by rw [inv_inj I hl hqx]; exact hx, fun l hl => by rw [inv_inj I hl hqy]; exact hy⟩, ⟨⟨_, he2⟩, st'.keep fun c hcm o q => up c o (fun z => he5 (by rw [← z]; simpa using hcm)) q⟩, fun c hcm => ?_⟩
      have := efp c hcm
      have c1 : c ≠ s.heap.objs.size := Nat.ne_of_lt this
      have c2 : c ≠ k.objs.size := Nat.ne_of_lt (Nat.lt_trans this hTlt)
      rw [upd_ne c2, upd_ne c1]
      exact (hf c hcm).1
  done := by
    intro X hP hw hK hc i pins s σ H E I hf st hg
    subst hP hw hK
    obtain ⟨⟨old, he⟩, st⟩ := id st
    obtain ⟨xs, ys, hqx, hqy, hend⟩ := hg
    obtain ⟨its, rv, p, _, _⟩ := inv_s I hqx
    obtain ⟨its2, rv2, p2, _, _⟩ := inv_s I hqy
    have l1 := rv.length
    have l2 := rv2.length
    have S := hS [(i1, a, its.toArray), (i2, b, its2.toArray)] rfl
    have n21 : i2 ≠ i1 := by
      have := S.nd
      simp at this
      exact fun q => this q.symm
    have hh : X.A.in1.in1.handled = none := I.ok.hd hc
    have hp : ∀ p ∈ [(i1, a, its.toArray), (i2, b, its2.toArray)], PlainS s.heap (if p.1 = i1 then t1 else t2) p.2.1 p.2.2 := by
      intro p hp
      simp at hp
      rcases hp with rfl | rfl
      · simpa using p
      · simp only [if_neg n21]; exact p2
    have kk : ∀ k : Heap, (∀ c o, c ≠ z → c ≠ TO → (∀ p ∈ [(i1, a, its.toArray), (i2, b, its2.toArray)], c ≠ p.1) → s.heap.get? c = some o → k.get? c = some o) → ∀ c o, c ∉ [e, z, TI, TO, i1, i2] → s.heap.get? c = some o → k.get? c = some o := fun k kp c o hn e => kp c o (fun q => hn (by simp [q])) (fun q => hn (by simp [q])) (fun p hp q => hn (by simp at hp; rcases hp with rfl | rfl <;> simp [q])) e
    refine ez_stop (G := fun k => ∀ c o, c ∉ [e, z, TI, TO, i1, i2] → s.heap.get? c = some o → k.get? c = some o) he (fun Q' E' q => ?_) fun k tk kp => ⟨rfl, I.turnedL (t' := tk) (ch := [e, z, TI, TO, i1, i2]) kp hf⟩
    by_cases hl : xs.length ≤ ys.length
    · exact zf_stop (fl := fun c => if c = i1 then t1 else t2) (L := [(i1, a, its.toArray), (i2, b, its2.toArray)]) (j0 := 0) S hh st hp rfl (by show i = its.toArray.size; simp; omega) (fun k hk => absurd hk (Nat.not_lt_zero k)) (by simp) fun k tk x kp hx => q k tk x (kk k kp) hx
    · refine zf_stop (fl := fun c => if c = i1 then t1 else t2) (L := [(i1, a, its.toArray), (i2, b, its2.toArray)]) (j0 := 1) S hh st hp rfl (by show i = its2.toArray.size; simp; omega) (fun k hk r hr => ?_) (by simp) fun k tk x kp hx => q k tk x (kk k kp) hx
      obtain rfl : k = 0 := by omega
      simp at hr
      subst hr
      show i < its.toArray.size
      simp; omega
  self := fun A i s Q E st h => let ⟨⟨_, he⟩, _⟩ := st; wpAny_pyIter_enum he h
local macro_rules
  | `(tactic| walk_at "N") => `(tactic| ((try dsimp only); show ¬ ((_ : Nat) = (_ : Nat)); omega))
  | `(tactic| walk_at "P") => `(tactic| (simp only [List.map_cons, List.map_nil, List.nodup_cons, List.mem_cons, List.not_mem_nil, or_false, not_or, not_false_eq_true, and_true, List.nodup_nil]; repeat (first | refine ⟨?_, ?_⟩ | walk_at "N")))
def iEnumZ (K : PySem.W.Frag) (ta : TA) : TI := fun σ H R => ta σ H fun vs H1 => ∃ a b t1 t2, vs = [.ref a, .ref b] ∧ (∃ xs, SqS K H1 t1 a xs) ∧ (∃ ys, SqS K H1 t2 b ys) ∧ R (ItEZ K t1 t2 a b) H1
theorem pi_enumZ {X : Cx} {e e2 : Expr} {ta : TA} {p p' pos pos' tpos : Pos} {elts : List Expr} {kk : Nat} (hg : Gl X "zip") (hm : X.mg "zip" = none) (hg' : Gl X "enumerate") (hm' : X.mg "enumerate" = none) (ha : PA X [e, e2] ta)
    (hs : starEach [e, e2] X.env = (false, eval e X.env) :: starEach [e2] X.env := by rfl) (hpl : (backTo pos (starEach [e2] X.env)).any (·.1) = false := by rfl) :
    PI X (.Tuple elts kk tpos) (.Call (.Name "enumerate" p') [.Call (.Name "zip" p) [e, e2] [] pos] [] pos') (iEnumZ X.K ta) := by
  refine ⟨fun pins s σ H R I h => ?_⟩
  refine Call_ (ld_blt I hg' hm' boot_enumerate (PyProof.Rows.callWith_type1 (Calls.spliced_cons ?_) rfl rfl))
  refine Call_ (ld_blt I hg hm PyProof.Rows.boot_zip (PyProof.Rows.callWith_type1 (thn (ha.run pos pins s σ H _ I h) fun us s1 ⟨vs, H1, I1, r1, q1⟩ => ?_) hs hpl))
  obtain ⟨a, b, t1, t2, ex, ⟨xs, hqx⟩, ⟨ys, hqy⟩, q⟩ := q1
  subst ex
  obtain ⟨its, rv, p1, _, la⟩ := inv_s I1 hqx
  obtain ⟨its2, rv2, p2, _, lb⟩ := inv_s I1 hqy
  cases r1 with
  | cons r rr =>
    cases rr with
    | cons r' rr =>
      cases rr
      cases r
      cases r'
      refine zip_begins2 (begins_s t1 a its.toArray) (begins_s t2 b its2.toArray) p1 p2 fun h' hz hTI hTO h1 h2 hsz hk => Calls.spliced_nil ?_
      refine ez_begins hz fun k he ke => wpAny_pyIter_enum he ?_
      have I2 : Inv X pins σ H1 { s1 with heap := k } := I1.kept (t' := s1.toks) fun b o e => ke b o (hk b o e)
      have la : @LT.lt Nat _ a s1.heap.objs.size := la
      have lb : @LT.lt Nat _ b s1.heap.objs.size := lb
      refine ⟨h'.objs.size, [h'.objs.size, s1.heap.objs.size + 4, s1.heap.objs.size + 2, s1.heap.objs.size + 3, s1.heap.objs.size, s1.heap.objs.size + 1], _, _, H1, rfl, I2, turn_enumZ (t1 := t1) (t2 := t2) (a := a) (b := b) (fun L e => ?_) ?_, ⟨⟨.none, he⟩, ⟨⟨false, .inl (ke _ _ hz)⟩, ke _ _ hTI, ⟨_, ke _ _ hTO, rfl⟩, fun r hr => ?_⟩⟩, fun c hcm => ?_, q⟩
      · match L, e with
        | [(i1, a', x1), (i2, b', x2)], e =>
          simp only [List.map_cons, List.map_nil, List.cons.injEq, Prod.mk.injEq, and_true] at e
          obtain ⟨⟨rfl, rfl⟩, rfl, rfl⟩ := e
          refine ⟨by walk_at "N", by walk_at "N", by walk_at "N", by walk_at "P", ?_, ?_⟩
          · intro p hp; simp at hp; rcases hp with rfl | rfl <;> exact ⟨by walk_at "N", by walk_at "N", by walk_at "N", by walk_at "N", by walk_at "N"⟩
          · intro p hp q hq; simp at hp hq; rcases hp with rfl | rfl <;> rcases hq with rfl | rfl <;> walk_at "N"
      · rw [hsz]
        simp only [List.mem_cons, List.not_mem_nil, or_false, not_or]
        refine ⟨?_, ?_, ?_, ?_, ?_⟩ <;> walk_at "N"
      · simp at hr
        rcases hr with rfl | rfl
        · simp only [if_true]; exact iterAt_mk (ke _ _ h1)
        · have : ¬ ((s1.heap.objs.size + 1 : Nat) = s1.heap.objs.size) := by omega
          show IterAt k (if (s1.heap.objs.size + 1 : Nat) = s1.heap.objs.size then t1 else t2) _ _ 0
          rw [if_neg this]; exact iterAt_mk (ke _ _ h2)
      · have hle : s1.heap.objs.size ≤ c := by
          rw [hsz] at hcm
          simp only [List.mem_cons, List.not_mem_nil, or_false] at hcm
          rcases hcm with rfl | rfl | rfl | rfl | rfl | rfl <;> first | exact Nat.le_refl _ | exact Nat.le_add_right _ _
        exact I1.fpOk hle (I1.hok.fresh hle)
theorem walk_enumZ {K : PySem.W.Frag} {t1 t2 : Bool} {a b : Addr} {ds es : List D} {st1 st2 : DH → Prop} {H1 : Hp} (S1 : Src K t1 a ds st1 H1) (S2 : Src K t2 b es st2 H1) : DWalk K (ItEZ K t1 t2 a b) (enumD 0 (zipD ds es)) (fun h => st1 h ∧ st2 h) H1 where
  go := fun i h H hi r st tm => by
    obtain ⟨vs, s, q⟩ := S1.at' h H r st.1 tm
    obtain ⟨ws, s', q'⟩ := S2.at' h H r st.2 tm
    rw [enumD_len, zipD_len] at hi
    have h1 : i < vs.length := by rw [← q.len]; omega
    have h2 : i < ws.length := by rw [← q'.len]; omega
    exact ⟨vs, ws, vs[i], ws[i], s, s', by simp [h1], by simp [h2]⟩
  stop := fun h H r st tm => by
    obtain ⟨vs, s, q⟩ := S1.at' h H r st.1 tm
    obtain ⟨ws, s', q'⟩ := S2.at' h H r st.2 tm
    exact ⟨vs, ws, s, s', by rw [enumD_len, zipD_len, q.len, q'.len]⟩
  yld := fun i h H x H' hi r st tm y => by
    obtain ⟨vs, s, q⟩ := S1.at' h H r st.1 tm
    obtain ⟨ws, s', q'⟩ := S2.at' h H r st.2 tm
    obtain ⟨T, U, x, y, rfl, n, n2, rfl, y1, y2⟩ := y
    obtain ⟨d, e, rd⟩ := q.get' (y1 vs s)
    obtain ⟨d', e', rd'⟩ := q'.get' (y2 ws s')
    refine ⟨_, enumD_get (i := 0) (zipD_get e e'), ?_, (r.hid n).hid n2, fun c o z => ?_⟩
    · rw [Nat.zero_add]
      exact rep_pair n2 (by simp [Rep]) (rep_pair n rd rd')
    · have z1 : upd H T (.tup [x, y]) c = some o := by rw [upd_ne (ne_of_none z n)]; exact z
      rw [upd_ne (ne_of_none z1 n2)]
      exact z1
def dEnumZ (ta : DTA) : DTI := fun σ h R => ta σ h fun ds h1 => match ds with
  | [d, e] => match srcD h1 d, srcD h1 e with
    | some (xs, st1), some (ys, st2) => R (enumD 0 (zipD xs ys)) (fun h => st1 h ∧ st2 h) h1
    | _, _ => False
  | _ => False
theorem di_enumZ {X : Cx} {e e2 : Expr} {ta : DTA} {p p' pos pos' tpos : Pos} {elts : List Expr} {kk : Nat} (hg : Gl X "zip") (hm : X.mg "zip" = none) (hg' : Gl X "enumerate") (hm' : X.mg "enumerate" = none) (ha : DA X [e, e2] ta) (hs : starEach [e, e2] X.env = (false, eval e X.env) :: starEach [e2] X.env := by rfl) (hpl : (backTo pos (starEach [e2] X.env)).any (·.1) = false := by rfl) :
    DI X (.Tuple elts kk tpos) (.Call (.Name "enumerate" p') [.Call (.Name "zip" p) [e, e2] [] pos] [] pos') (dEnumZ ta) := (pi_enumZ hg hm hg' hm' ha hs hpl).imp fun σ H R ⟨σD, h, RD, rs, q, p⟩ => by
  refine ⟨σD, h, _, rs, q, fun ds h1 vs H1 q1 rs1 r1 k1 => ?_⟩
  split at q1
  · rename_i d e
    split at q1
    · rename_i xs st1 ys st2 e1 e2
      obtain ⟨v, w, rfl, rv, rw⟩ := reps_two r1
      obtain ⟨a, t1, rfl, hx, S1⟩ := src_of rs1.hr e1 rv
      obtain ⟨b, t2, rfl, hy, S2⟩ := src_of rs1.hr e2 rw
      exact ⟨a, b, t1, t2, rfl, hx, hy, p _ _ h1 _ H1 q1 rs1 k1 (walk_enumZ S1 S2)⟩
    · exact q1.elim
  · exact q1.elim
end DL

namespace Law
open PySem PySem.Spec L2 DL
open PyProof.Rows hiding St
local macro_rules
  | `(tactic| walk_at "D") => `(tactic| simp only [dRet, dSeq, dAsg, dIfS, dNext, dPar, dAug, dDrop, dVar, dC, dOp, dCons, dNil, dgName, dgTup, dgCons, dgNil, dTest, dAnd, dOr, dNot, dIf, dTup, dLst, dCB, dCall, dUn, dAugI, dgSub, dLcE, dLcT, dLcS, dLcSet, dSl, dNoPart, dPart, dPar3, dRevT, dTruth, dStar, dLcN, dgUnl, dListZip, dIsiT, dBmL, dBmL0, dYes, dwipe, endD,
      List.getElem?_cons_succ, List.getElem?_cons_zero, List.set_cons_succ, List.set_cons_zero, List.foldl_cons, List.foldl_nil,
      rIB_int, rAdd_int, rSub_int, rMul_int, rMod_int, rDiv_int, rDivW_int, rShr_int, rShl_int, rPow_int, rIpAdd_int, rIpSub_int, rAnd1_int, rNeg_int, rInt_int, rAbs_int, rLen_tup, rAdd_tup, rTupleOf_tup, rMax2_int, rMin2_int, rSl_tup, rEqU_int, rNeU_int, true_and, and_true, ↓reduceIte, Bool.false_eq_true, Bool.not_true, Bool.not_false, List.length_cons, List.length_nil, Nat.reduceAdd, Nat.zero_add])

def topS (i : Nat) : Stmt := PySem.Challenge.pw_askedfew_k18_rounds_as_anybody_tells_the.main.body.getD i (.Pass ⟨0, 0, 0, 0⟩)
def clsS (i j : Nat) : Stmt := match topS i with
  | .ClassDef _ _ _ b _ _ _ _ _ _ _ => b.getD j (.Pass ⟨0, 0, 0, 0⟩)
  | _ => .Pass ⟨0, 0, 0, 0⟩
abbrev s_times : Stmt := topS 5
abbrev s_summed : Stmt := topS 6
abbrev s_product_of : Stmt := topS 7
abbrev s_power : Stmt := topS 8
abbrev s_inverse : Stmt := topS 9
abbrev s_basis_at : Stmt := topS 11
abbrev s_value_at : Stmt := topS 12
abbrev s_bits_of : Stmt := topS 14
abbrev s_weights : Stmt := topS 15
abbrev s_extension : Stmt := topS 16
abbrev s_fixed : Stmt := topS 17
abbrev s_degree_of : Stmt := topS 20
abbrev s_number_of : Stmt := topS 21
abbrev s_whole_sum : Stmt := topS 22
abbrev s_all_points : Stmt := topS 23
abbrev s_number_at : Stmt := topS 24
abbrev s_rest_sum : Stmt := topS 25
abbrev s_fixed_all : Stmt := topS 26
abbrev s_round_of : Stmt := topS 27
abbrev s_Summer___init__ : Stmt := clsS 28 0
abbrev s_Summer_told : Stmt := clsS 28 5
abbrev s_Summer_draw : Stmt := clsS 28 6
abbrev s_rounds_of : Stmt := topS 29
abbrev s_last_numbers : Stmt := topS 30
abbrev s_does_open : Stmt := topS 32
abbrev s_next_value : Stmt := topS 33
abbrev s_values_ahead : Stmt := topS 34
abbrev s_round_fault : Stmt := topS 35
abbrev s_last_value : Stmt := topS 36
abbrev s_missed : Stmt := topS 37
abbrev s__law_bag : Stmt := topS 39
abbrev s__law_take : Stmt := topS 40
abbrev s__law_some : Stmt := topS 41
abbrev s__law_alike : Stmt := topS 42
abbrev s__law_inverse : Stmt := topS 43
abbrev s__law_curve : Stmt := topS 44
abbrev s__law_bits : Stmt := topS 45
abbrev s__law_weight : Stmt := topS 46
abbrev s__law_extension : Stmt := topS 47
abbrev s__law_size : Stmt := topS 48
abbrev s__law_all_bits : Stmt := topS 49
abbrev s__law_number : Stmt := topS 50
abbrev s__law_rest : Stmt := topS 51
abbrev s__law_values : Stmt := topS 52
abbrev s__law_first_fault : Stmt := topS 53
abbrev s__law_first_missed : Stmt := topS 54
abbrev s__law_false_rounds : Stmt := topS 55
abbrev s_law : Stmt := topS 56
class ClsA where
  Summer : Addr
variable [ClsA]

abbrev degK : List (Str × D) := [("one", .int 1), ("two", .int 2), ("three", .int 3), ("choice", .int 3)]
/-- numbers: a tuple or a list of them -/
def NmD (h : DH) (x : D) (ns : List Int) : Prop := x = .tup (IL ns) ∨ ∃ a : Addr, x = .ref a ∧ h a = some (.lst (IL ns))
def fixT (p : Int) (ts : List (List Int)) (ch : List Int) : List (List Int) := ts.map fun t => ffx p t ch
def numV (p : Int) (w : Wd) (ns : List Int) : Int := trE w (fun j => ns.getD j 0) % p
def extV (p : Int) (ts : List (List Int)) (pt : List Int) : List Int := ts.map fun t => K03.dot t (K03.W p 1 pt) % p
def restV (p : Int) (w : Wd) (ts : List (List Int)) (ch : List Int) : Int := whl p w (fixT p ts ch)
def dueV (p : Int) (w : Wd) (ts : List (List Int)) (ch : List Int) (at' : Nat) : List Int := valsN p w (2 ^ (ch.length - at' - 1)) (fixT p ts (ch.take at'))
def duesD (p : Int) (w : Wd) (ts : List (List Int)) (ch : List Int) : List D := (List.range ch.length).map fun at' => .tup (IL (dueV p w ts ch at'))
def sumF (p : Int) (w : Wd) (ts : List (List Int)) (pt : List Int) : List (Str × D) := [("its_p", .int p), ("its_word", .str (Str.ofString w.str)), ("its_tables", .tup (TL ts)), ("its_point", .tup (IL pt))]
def sp_degree_of : DSp := fun ds h Q => ∃ w : Wd, ds = [.str (Str.ofString w.str)] ∧ Q (.int (w.deg : Nat)) h
def sp_number_of : DSp := fun ds h Q => ∃ (p : Int) (w : Wd) (ns : List Int) (x : D), ds = [.int p, .str (Str.ofString w.str), x] ∧ NmD h x ns ∧ Pp p ∧ Rng p ns ∧ ns.length = w.many ∧ Q (.int (numV p w ns)) h
def sp_whole_sum : DSp := fun ds h Q => ∃ (p : Int) (w : Wd) (ts : List (List Int)) (l : Nat), ds = [.int p, .str (Str.ofString w.str), .tup (TL ts)] ∧ Pp p ∧ Tabs p w l ts ∧ l ≤ 256 ∧ Q (.int (whl p w ts)) h
def sp_all_points : DSp := fun ds h Q => ∃ k : Nat, ds = [.int k] ∧ k ≤ 4 ∧ ∀ a h', Sub h h' → h a = none → h' a = some (.lst (TL (allBits k))) → Q (.ref a) h'
def sp_number_at : DSp := fun ds h Q => ∃ (p : Int) (w : Wd) (ts : List (List Int)) (pt : List Int), ds = [.int p, .str (Str.ofString w.str), .tup (TL ts), .tup (IL pt)] ∧ Pp p ∧ Rng p pt ∧ pt.length ≤ 8 ∧ Tabs p w (2 ^ pt.length) ts ∧ Q (.int (numV p w (extV p ts pt))) h
def sp_rest_sum : DSp := fun ds h Q => ∃ (p : Int) (w : Wd) (ts : List (List Int)) (ch : List Int) (k : Nat), ds = [.int p, .str (Str.ofString w.str), .tup (TL ts), .tup (IL ch)] ∧ Pp p ∧ 5 ≤ p ∧ Rng p ch ∧ ch.length + k ≤ 4 ∧ Tabs p w (2 ^ (ch.length + k)) ts ∧ Q (.int (restV p w ts ch)) h
def sp_fixed_all : DSp := fun ds h Q => ∃ (p x : Int) (w : Wd) (ts : List (List Int)) (n : Nat), ds = [.int p, .tup (TL ts), .int x] ∧ Pp p ∧ 0 ≤ x ∧ x < p ∧ n ≤ 256 ∧ Tabs p w (2 * n) ts ∧ Q (.tup (TL (fxs p x n ts))) h
def sp_round_of : DSp := fun ds h Q => ∃ (p : Int) (w : Wd) (ts : List (List Int)) (n : Nat), ds = [.int p, .str (Str.ofString w.str), .tup (TL ts)] ∧ Pp p ∧ 5 ≤ p ∧ n ≤ 256 ∧ Tabs p w (2 * n) ts ∧ Q (.tup (IL (valsN p w n ts))) h
def sp_Summer___init__ : DSp := fun ds h Q => ∃ (p : Int) (w : Wd) (ts : List (List Int)) (a dx : Addr), ds = [.ref a, .int p, .str (Str.ofString w.str), .tup (TL ts)] ∧ h a = some (.ins ClsA.Summer dx []) ∧ Q .non (updD h a (.ins ClsA.Summer dx (sumF p w ts [])))
def sp_Summer_told : DSp := fun ds h Q => ∃ (p : Int) (w : Wd) (ts : List (List Int)) (pt : List Int) (n : Nat) (a dx : Addr), ds = [.ref a] ∧ h a = some (.ins ClsA.Summer dx (sumF p w ts pt)) ∧ Pp p ∧ 5 ≤ p ∧ n ≤ 256 ∧ Tabs p w (2 * n) ts ∧ Q (.tup (IL (valsN p w n ts))) h
def sp_Summer_draw : DSp := fun ds h Q => ∃ (p x : Int) (w : Wd) (ts : List (List Int)) (pt : List Int) (n : Nat) (a dx : Addr), ds = [.ref a, .int x] ∧ h a = some (.ins ClsA.Summer dx (sumF p w ts pt)) ∧ Pp p ∧ 0 ≤ x ∧ x < p ∧ n ≤ 256 ∧ pt.length ≤ 100 ∧ Tabs p w (2 * n) ts ∧ Q .non (updD h a (.ins ClsA.Summer dx (sumF p w (fxs p x n ts) (pt ++ [x]))))
def sp_rounds_of : DSp := fun ds h Q => ∃ (p : Int) (w : Wd) (ts : List (List Int)) (ch : List Int), ds = [.int p, .str (Str.ofString w.str), .tup (TL ts), .tup (IL ch)] ∧ Pp p ∧ 5 ≤ p ∧ Rng p ch ∧ ch.length ≤ 4 ∧ Tabs p w (2 ^ ch.length) ts ∧ Q (.tup (duesD p w ts ch)) h
def sp_last_numbers : DSp := fun ds h Q => ∃ (p : Int) (w : Wd) (ts : List (List Int)) (pt : List Int), ds = [.int p, .str (Str.ofString w.str), .tup (TL ts), .tup (IL pt)] ∧ Pp p ∧ Rng p pt ∧ pt.length ≤ 8 ∧ Tabs p w (2 ^ pt.length) ts ∧ Q (.tup (IL (extV p ts pt))) h
def sp__law_number : DSp := fun ds h Q => ∃ (p : Int) (w : Wd) (ns : List Int) (x : D), ds = [.int p, .str (Str.ofString w.str), x] ∧ NmD h x ns ∧ Pp p ∧ Rng p ns ∧ ns.length = w.many ∧ Q (.int (numV p w ns)) h
def sp__law_rest : DSp := fun ds h Q => ∃ (p : Int) (w : Wd) (ts : List (List Int)) (ch : List Int) (k : Nat), ds = [.int p, .str (Str.ofString w.str), .tup (TL ts), .tup (IL ch)] ∧ Pp p ∧ 5 ≤ p ∧ Rng p ch ∧ ch.length + k ≤ 3 ∧ Tabs p w (2 ^ (ch.length + k)) ts ∧ Q (.int (restV p w ts ch)) h
def opn (p : Int) (r : List Int) (v : Int) : Bool := (r.getD 0 0 + r.getD 1 0 - v) % p == 0
/-- the value ahead of a round -/
def ahV (p v : Int) (rs : List (List Int)) (cs : List Int) : Nat → Int
  | 0 => v
  | i + 1 => Pl.lag p (rs.getD i []) (cs.getD i 0) % p
def ahL (p v : Int) (rs : List (List Int)) (cs : List Int) : List Int := (List.range (rs.length + 1)).map (ahV p v rs cs)
def opA (p v : Int) (rs : List (List Int)) (cs : List Int) (i : Nat) : Bool := opn p (rs.getD i []) (ahV p v rs cs i)
def faultV (p v : Int) (rs : List (List Int)) (cs : List Int) : D := match (List.range rs.length).find? (fun i => !opA p v rs cs i) with
  | some i => .int (i : Nat)
  | none => .non
def rtB (p : Int) (w : Wd) (ts : List (List Int)) (v : Int) (rs : List (List Int)) (cs : List Int) (i : Nat) : Bool := ahV p v rs cs i == restV p w ts (cs.take i)
def missL (p : Int) (w : Wd) (ts : List (List Int)) (v : Int) (rs : List (List Int)) (cs : List Int) : List Nat := (List.range rs.length).filter fun i => !rtB p w ts v rs cs i && rtB p w ts v rs cs (i + 1)
def missV (p : Int) (w : Wd) (ts : List (List Int)) (v : Int) (rs : List (List Int)) (cs : List Int) : D := match missL p w ts v rs cs with
  | [] => .non
  | i :: _ => .int (i : Nat)
/-- rounds that may be told -/
def RdsOk (p : Int) (rs : List (List Int)) (cs : List Int) : Prop := rs.length = cs.length ∧ cs.length ≤ 3 ∧ Rng p cs ∧ ∀ r ∈ rs, 2 ≤ r.length ∧ r.length ≤ 4 ∧ Rng p r
def sp_does_open : DSp := fun ds h Q => ∃ (p v : Int) (r : List Int), ds = [.int p, .int v, .tup (IL r)] ∧ 1 < p ∧ 2 ≤ r.length ∧ Q (.bl (opn p r v)) h
def sp_next_value : DSp := fun ds h Q => ∃ (p x : Int) (vs : List Int), ds = [.int p, .tup (IL vs), .int x] ∧ Pp p ∧ Pl.Prm p ∧ (vs.length : Int) ≤ p ∧ vs.length ≤ 1000000 ∧ Rng p vs ∧ 0 ≤ x ∧ Q (.int (Pl.lag p vs x % p)) h
def sp_values_ahead : DSp := fun ds h Q => ∃ (p v : Int) (rs : List (List Int)) (cs : List Int), ds = [.int p, .int v, .tup (TL rs), .tup (IL cs)] ∧ Pp p ∧ Pl.Prm p ∧ 5 ≤ p ∧ RdsOk p rs cs ∧ ∀ a, h a = none → Q (.ref a) (updD h a (.lst (IL (ahL p v rs cs))))
def sp_round_fault : DSp := fun ds h Q => ∃ (p v : Int) (rs : List (List Int)) (cs : List Int), ds = [.int p, .int v, .tup (TL rs), .tup (IL cs)] ∧ Pp p ∧ Pl.Prm p ∧ 5 ≤ p ∧ RdsOk p rs cs ∧ Q (faultV p v rs cs) h
def sp_last_value : DSp := fun ds h Q => ∃ (p v : Int) (rs : List (List Int)) (cs : List Int), ds = [.int p, .int v, .tup (TL rs), .tup (IL cs)] ∧ Pp p ∧ Pl.Prm p ∧ 5 ≤ p ∧ RdsOk p rs cs ∧ Q (.int (ahV p v rs cs rs.length)) h
def sp_missed : DSp := fun ds h Q => ∃ (p v : Int) (w : Wd) (ts rs : List (List Int)) (cs : List Int), ds = [.int p, .str (Str.ofString w.str), .tup (TL ts), .int v, .tup (TL rs), .tup (IL cs)] ∧ Pp p ∧ Pl.Prm p ∧ 5 ≤ p ∧ RdsOk p rs cs ∧ Tabs p w (2 ^ cs.length) ts ∧ Q (missV p w ts v rs cs) h
def sp__law_curve : DSp := fun ds h Q => ∃ (p x : Int) (vs : List Int) (d : D), ds = [.int p, d, .int x] ∧ NmD h d vs ∧ Pp p ∧ vs.length ≤ 1000000 ∧ Rng p vs ∧ 0 ≤ x ∧ x < 4294967296 ∧ Q (.int (Pl.lag p vs x % p)) h
def sp__law_values : DSp := fun ds h Q => ∃ (p v : Int) (rs : List (List Int)) (cs : List Int), ds = [.int p, .int v, .tup (TL rs), .tup (IL cs)] ∧ Pp p ∧ RdsOk p rs cs ∧ ∀ a, h a = none → Q (.ref a) (updD h a (.lst (IL (ahL p v rs cs))))
def sp__law_first_fault : DSp := fun ds h Q => ∃ (p v : Int) (rs : List (List Int)) (cs : List Int) (a : Addr), ds = [.int p, .ref a, .tup (TL rs)] ∧ h a = some (.lst (IL (ahL p v rs cs))) ∧ 1 < p ∧ RdsOk p rs cs ∧ Q (faultV p v rs cs) h
def sp__law_first_missed : DSp := fun ds h Q => ∃ (p v : Int) (w : Wd) (ts rs : List (List Int)) (cs : List Int) (a : Addr), ds = [.int p, .str (Str.ofString w.str), .tup (TL ts), .ref a, .tup (IL cs)] ∧ h a = some (.lst (IL (ahL p v rs cs))) ∧ Pp p ∧ 5 ≤ p ∧ RdsOk p rs cs ∧ Tabs p w (2 ^ cs.length) ts ∧ Q (missV p w ts v rs cs) h
def sp__law_false_rounds : DSp := fun ds h Q => ∃ (b c : Addr) (p v : Int) (w : Wd) (ts : List (List Int)) (n : Nat), ds = [.ref b, .int p, .str (Str.ofString w.str), .tup (TL ts), .int v, .int (w.deg : Nat), .int n] ∧ BagC h b c ∧ Pp p ∧ 5 ≤ p ∧ n ≤ 3 ∧ Tabs p w (2 ^ n) ts ∧ ∀ rs cs h', cs.length = n → RdsOk p rs cs → (∀ r ∈ rs, r.length = w.deg + 1) → BagC h' b c → Q (.tup [.tup (TL rs), .tup (IL cs)]) h'
def sp__law_some : DSp := fun ds h Q => ∃ (b a : Addr) (ts : List D), ds = [.ref b, .ref a] ∧ BagOk h b ∧ h a = some (.lst ts) ∧ a ≠ b ∧ 1 ≤ ts.length ∧ ts.length < 1000000 ∧ ∀ d o, d ∈ ts → BagOk (updD h b o) b → (∀ c, BagC h b c → BagC (updD h b o) b c) → Q d (updD h b o)
def sp_times : DSp := fun ds h Q => ∃ p a b : Int, ds = [.int p, .int a, .int b] ∧ 0 < p ∧ mulC a b ∧ Q (.int (a * b % p)) h
def sp_summed : DSp := fun ds h Q => ∃ (p : Int) (x : D) (ns : List Int), ds = [.int p, x] ∧ itemsD h x = some (IL ns) ∧ 0 < p ∧ Q (.int (ns.sum % p)) h
def sp_product_of : DSp := fun ds h Q => ∃ (p : Int) (a : Addr) (ns : List Int), ds = [.int p, .ref a] ∧ h a = some (.lst (IL ns)) ∧ Pp p ∧ Q (.int (ns.foldl (fun f x => f * x % p) 1)) h
def sp_power : DSp := fun ds h Q => ∃ (p one many : Int), ds = [.int p, .int one, .int many] ∧ Pp p ∧ 0 ≤ many ∧ Q (.int (one ^ many.toNat % p)) h
def sp_inverse : DSp := fun ds h Q => ∃ (p one : Int), ds = [.int p, .int one] ∧ Pp p ∧ one % p ≠ 0 ∧ Q (.int (one ^ (p - 2).toNat % p)) h
def sp_basis_at : DSp := fun ds h Q => ∃ (p x : Int) (m k : Nat), ds = [.int p, .int m, .int k, .int x] ∧ Pp p ∧ Pl.Prm p ∧ (m : Int) ≤ p ∧ m ≤ 1000000 ∧ k < m ∧ Q (.int (Pl.px m k x * (Pl.px m k k) ^ (p - 2).toNat % p)) h
def sp_value_at : DSp := fun ds h Q => ∃ (p x : Int) (vs : List Int), ds = [.int p, .tup (IL vs), .int x] ∧ Pp p ∧ Pl.Prm p ∧ (vs.length : Int) ≤ p ∧ vs.length ≤ 1000000 ∧ Rng p vs ∧ 0 ≤ x ∧ Q (.int (Pl.lag p vs x % p)) h
def sp_bits_of : DSp := fun ds h Q => ∃ (ts : List D) (n : Nat), ds = [.tup ts] ∧ ts.length = 2 ^ n ∧ n ≤ 60 ∧ Q (.int n) h
def sp_weights : DSp := fun ds h Q => ∃ (p : Int) (xs : List Int), ds = [.int p, .tup (IL xs)] ∧ Pp p ∧ Rng p xs ∧ xs.length ≤ 8 ∧ Q (.tup (IL (K03.W p 1 xs))) h
def sp_extension : DSp := fun ds h Q => ∃ (p : Int) (ts xs : List Int), ds = [.int p, .tup (IL ts), .tup (IL xs)] ∧ Pp p ∧ Rng p xs ∧ xs.length ≤ 8 ∧ ts.length ≤ 16777216 ∧ Rng p ts ∧ Q (.int (K03.dot ts (K03.W p 1 xs) % p)) h
def sp_fixed : DSp := fun ds h Q => ∃ (p x : Int) (ts : List Int) (n : Nat), ds = [.int p, .tup (IL ts), .int x] ∧ Pp p ∧ Rng p ts ∧ 0 ≤ x ∧ x < p ∧ ts.length = 2 * n ∧ n ≤ 1000000 ∧ Q (.tup (IL (K03.fx p x (ts.take n) (ts.drop n)))) h
def sp__law_bag : DSp := fun ds h Q => ∃ ns : List Int, ds = [.rol (IL ns)] ∧ ns.length ≤ 63 ∧ ∀ b h', BagOk h' b → Q (.ref b) h'
def sp__law_take : DSp := fun ds h Q => ∃ (b : Addr) (many : Int), ds = [.ref b, .int many] ∧ BagOk h b ∧ 1 ≤ many ∧ many < 18446744073709551616 ∧ ∀ v o, 0 ≤ v → v < many → BagOk (updD h b o) b → (∀ c, BagC h b c → BagC (updD h b o) b c) → Q (.int v) (updD h b o)
def sp__law_alike : DSp := fun ds h Q => ∃ (x y : D) (n : Nat), ds = [x, y] ∧ Alk h x y n ∧ n ≤ 10000000 ∧ Q (.bl true) h
def sp__law_inverse : DSp := fun ds h Q => ∃ (p one : Int), ds = [.int p, .int one] ∧ Pp p ∧ Q (.int (one ^ (p - 2).toNat % p)) h

def sp__law_bits : DSp := fun ds h Q => ∃ (i n : Nat), ds = [.int i, .int n] ∧ n ≤ 1000 ∧ ∀ a, h a = none → Q (.ref a) (updD h a (.lst (IL (K03.lbits i n))))
def sp__law_weight : DSp := fun ds h Q => ∃ (p : Int) (a : Addr) (bs xs : List Int), ds = [.int p, .ref a, .tup (IL xs)] ∧ h a = some (.lst (IL bs)) ∧ Pp p ∧ Rng p xs ∧ Q (.int (K03.lw p 1 bs xs)) h
def sp__law_extension : DSp := fun ds h Q => ∃ (p : Int) (ts xs : List Int), ds = [.int p, .tup (IL ts), .tup (IL xs)] ∧ Pp p ∧ Rng p xs ∧ ts.length = 2 ^ xs.length ∧ xs.length ≤ 8 ∧ Rng p ts ∧ Q (.int (K03.dot ts (K03.W p 1 xs) % p)) h
def sp__law_size : DSp := fun ds h Q => ∃ (ts : List D) (n : Nat), ds = [.tup ts] ∧ ts.length = 2 ^ n ∧ Q (.int n) h

def sp__law_all_bits : DSp := fun ds h Q => ∃ k : Nat, ds = [.int k] ∧ k ≤ 3 ∧ ∀ a, h a = none → Q (.ref a) (updD h a (.lst ((allBits k).map fun bs => .tup (IL bs))))


abbrev K_DEGREES : List (Str × D) := [("one", (.int 1)), ("two", (.int 2)), ("three", (.int 3)), ("choice", (.int 3))]
abbrev N_times : List Str := ["p", "one", "other"]
theorem st_times (a0 a1 a2 : D) : startD N_times [a0, a1, a2] = [some a0, some a1, some a2] := rfl
def t_times : DTS :=
 (dRet (dOp rModD (dOp rMulD (dVar 1) (dVar 2)) (dVar 0)))
abbrev N_summed : List Str := ["p", "some"]
theorem st_summed (a0 a1 : D) : startD N_summed [a0, a1] = [some a0, some a1] := rfl
def t_summed : DTS :=
 (dRet (dOp rModD (dCB rSumX (dCons (dVar 1) dNil)) (dVar 0)))
abbrev N_product_of : List Str := ["p", "some", "found", "one"]
theorem st_product_of (a0 a1 : D) : startD N_product_of [a0, a1] = [some a0, some a1, none, none] := rfl
def t_product_of : DTS :=
 (dSeq (dAsg (dC (.int 1)) (dgName 2))
 (dSeq (dFor (dSeqI (dVar 1)) (dgName 3)
 (dAsg (dOp rModD (dOp rMulD (dVar 2) (dVar 3)) (dVar 0)) (dgName 2)))
 (dRet (dVar 2))))
abbrev N_power : List Str := ["p", "one", "many", "found", "base"]
theorem st_power (a0 a1 a2 : D) : startD N_power [a0, a1, a2] = [some a0, some a1, some a2, none, none] := rfl
def t_power : DTS :=
 (dSeq (dPar 3 4 (dCons (dC (.int 1)) (dCons (dOp rModD (dVar 1) (dVar 0)) dNil)))
 (dSeq (dWhile (dTest (dOp (rIB fun i j => decide (j < i)) (dVar 2) (dC (.int 0))))
 (dSeq (dIfS (dTest (dOp rEqU (dOp rModD (dVar 2) (dC (.int 2))) (dC (.int 1))))
 (dAsg (dOp rModD (dOp rMulD (dVar 3) (dVar 4)) (dVar 0)) (dgName 3))
 dNext)
 (dPar 4 2 (dCons (dOp rModD (dOp rMulD (dVar 4) (dVar 4)) (dVar 0)) (dCons (dOp rDivD (dVar 2) (dC (.int 2))) dNil)))))
 (dRet (dVar 3))))
abbrev N_inverse : List Str := ["p", "one"]
theorem st_inverse (a0 a1 : D) : startD N_inverse [a0, a1] = [some a0, some a1] := rfl
def t_inverse : DTS :=
 (dSeq (dIfS (dTest (dOp rEqU (dOp rModD (dVar 1) (dVar 0)) (dC (.int 0))))
 dNever
 dNext)
 (dRet (dCall sp_power (dCons (dVar 0) (dCons (dVar 1) (dCons (dOp rSubD (dVar 0) (dC (.int 2))) dNil))))))
abbrev N_basis_at : List Str := ["p", "many", "place", "number", "others", "over", "other"]
theorem st_basis_at (a0 a1 a2 a3 : D) : startD N_basis_at [a0, a1, a2, a3] = [some a0, some a1, some a2, some a3, none, none, none] := rfl
def t_basis_at : DTS :=
 (dSeq (dLcSet 4 (dLc (dRange1 (dCons (dVar 1) dNil)) (dgName 6) (dTest (dOp rNeU (dVar 6) (dVar 2))) (dVar 6) [6]))
 (dSeq (dAsg (dCall sp_product_of (dCons (dVar 0) (dCons (dLcE (dLc (dSeqI (dVar 4)) (dgName 6) dYes (dOp rModD (dOp rSubD (dVar 3) (dVar 6)) (dVar 0)) [6])) dNil))) (dgName 5))
 (dRet (dCall sp_times (dCons (dVar 0) (dCons (dVar 5) (dCons (dCall sp_inverse (dCons (dVar 0) (dCons (dCall sp_product_of (dCons (dVar 0) (dCons (dLcE (dLc (dSeqI (dVar 4)) (dgName 6) dYes (dOp rModD (dOp rSubD (dVar 2) (dVar 6)) (dVar 0)) [6])) dNil))) dNil))) dNil)))))))
abbrev N_value_at : List Str := ["p", "values", "number", "many", "place", "value"]
theorem st_value_at (a0 a1 a2 : D) : startD N_value_at [a0, a1, a2] = [some a0, some a1, some a2, none, none, none] := rfl
def t_value_at : DTS :=
 (dSeq (dIfS (dTest (dOp (rIB fun i j => decide (i < j)) (dVar 2) (dCB rLen (dCons (dVar 1) dNil))))
 (dRet (dOp rIx (dVar 1) (dVar 2)))
 dNext)
 (dSeq (dAsg (dCB rLen (dCons (dVar 1) dNil)) (dgName 3))
 (dRet (dCall sp_summed (dCons (dVar 0) (dCons (dLcE (dLc (dEnum (dCons (dVar 1) dNil)) (dgTup 2 (dgCons (dgName 4) (dgCons (dgName 5) dgNil))) dYes (dOp rMulD (dVar 5) (dCall sp_basis_at (dCons (dVar 0) (dCons (dVar 3) (dCons (dVar 4) (dCons (dVar 2) dNil)))))) [4, 5])) dNil))))))
abbrev N_bits_of : List Str := ["table", "found"]
theorem st_bits_of (a0 : D) : startD N_bits_of [a0] = [some a0, none] := rfl
def t_bits_of : DTS :=
 (dSeq (dAsg (dC (.int 0)) (dgName 1))
 (dSeq (dWhile (dTest (dOp (rIB fun i j => decide (i < j)) (dOp rShlD (dC (.int 1)) (dVar 1)) (dCB rLen (dCons (dVar 0) dNil))))
 (dAug 1 rIpAdd (dC (.int 1))))
 (dRet (dVar 1))))
abbrev N_weights : List Str := ["p", "point", "found", "number", "weight", "one"]
theorem st_weights (a0 a1 : D) : startD N_weights [a0, a1] = [some a0, some a1, none, none, none, none] := rfl
def t_weights : DTS :=
 (dSeq (dAsg (dLst (dCons (dC (.int 1)) dNil)) (dgName 2))
 (dSeq (dFor (dSeqI (dVar 1)) (dgName 3)
 (dLcSet 2 (dLc2 (dSeqI (dVar 2)) (dgName 4) dYes (dSeqI (dTup (dCons (dOp rModD (dOp rMulD (dVar 4) (dOp rSubD (dC (.int 1)) (dVar 3))) (dVar 0)) (dCons (dOp rModD (dOp rMulD (dVar 4) (dVar 3)) (dVar 0)) dNil)))) (dgName 5) dYes (dVar 5) [4, 5] [5])))
 (dRet (dCB rTupleOf (dCons (dVar 2) dNil)))))
abbrev N_extension : List Str := ["p", "table", "point", "number", "one"]
theorem st_extension (a0 a1 a2 : D) : startD N_extension [a0, a1, a2] = [some a0, some a1, some a2, none, none] := rfl
def t_extension : DTS :=
 (dRet (dCall sp_summed (dCons (dVar 0) (dCons (dLcE (dLc (dZip2 (dCons (dVar 1) (dCons (dCall sp_weights (dCons (dVar 0) (dCons (dVar 2) dNil))) dNil))) (dgTup 2 (dgCons (dgName 3) (dgCons (dgName 4) dgNil))) dYes (dOp rMulD (dVar 3) (dVar 4)) [3, 4])) dNil))))
abbrev N_fixed : List Str := ["p", "table", "number", "half", "low", "high"]
theorem st_fixed (a0 a1 a2 : D) : startD N_fixed [a0, a1, a2] = [some a0, some a1, some a2, none, none, none] := rfl
def t_fixed : DTS :=
 (dSeq (dAsg (dOp rDivD (dCB rLen (dCons (dVar 1) dNil)) (dC (.int 2))) (dgName 3))
 (dRet (dLcT (dLc (dZip2 (dCons (dSl (dVar 1) dNoPart (dPart (dVar 3))) (dCons (dSl (dVar 1) (dPart (dVar 3)) dNoPart) dNil))) (dgTup 2 (dgCons (dgName 4) (dgCons (dgName 5) dgNil))) dYes (dOp rModD (dOp rAddD (dVar 4) (dOp rMulD (dVar 2) (dOp rSubD (dVar 5) (dVar 4)))) (dVar 0)) [4, 5]))))
abbrev N_degree_of : List Str := ["word"]
theorem st_degree_of (a0 : D) : startD N_degree_of [a0] = [some a0] := rfl
def t_degree_of : DTS :=
 (dRet (dGIx K_DEGREES (dVar 0)))
abbrev N_number_of : List Str := ["p", "word", "numbers", "w", "c", "a", "b", "found", "number"]
theorem st_number_of (a0 a1 a2 : D) : startD N_number_of [a0, a1, a2] = [some a0, some a1, some a2, none, none, none, none, none, none] := rfl
def t_number_of : DTS :=
 (dSeq (dIfS (dTest (dOp rEqU (dVar 1) (dC (.str "choice"))))
 (dSeq (dAsg (dVar 2) (dgUnb 4 (dgCons (dgName 3) (dgCons (dgName 4) (dgCons (dgName 5) (dgCons (dgName 6) dgNil))))))
 (dRet (dOp rModD (dOp rMulD (dVar 3) (dOp rAddD (dOp rMulD (dVar 4) (dVar 5)) (dOp rMulD (dOp rSubD (dC (.int 1)) (dVar 4)) (dVar 6)))) (dVar 0))))
 dNext)
 (dSeq (dAsg (dC (.int 1)) (dgName 7))
 (dSeq (dFor (dSeqI (dVar 2)) (dgName 8)
 (dAsg (dOp rModD (dOp rMulD (dVar 7) (dVar 8)) (dVar 0)) (dgName 7)))
 (dRet (dVar 7)))))
abbrev N_whole_sum : List Str := ["p", "word", "tables", "numbers"]
theorem st_whole_sum (a0 a1 a2 : D) : startD N_whole_sum [a0, a1, a2] = [some a0, some a1, some a2, none] := rfl
def t_whole_sum : DTS :=
 (dRet (dCall sp_summed (dCons (dVar 0) (dCons (dLcE (dLc (dZipM (dVar 2)) (dgName 3) dYes (dCall sp_number_of (dCons (dVar 0) (dCons (dVar 1) (dCons (dVar 3) dNil)))) [3])) dNil))))
abbrev N_all_points : List Str := ["bits", "found", "turn", "point", "bit"]
theorem st_all_points (a0 : D) : startD N_all_points [a0] = [some a0, none, none, none, none] := rfl
def t_all_points : DTS :=
 (dSeq (dAsg (dLst (dCons (dTup dNil) dNil)) (dgName 1))
 (dSeq (dFor (dRange1 (dCons (dVar 0) dNil)) (dgName 2)
 (dLcSet 1 (dLc2 (dSeqI (dVar 1)) (dgName 3) dYes (dSeqI (dTup (dCons (dC (.int 0)) (dCons (dC (.int 1)) dNil)))) (dgName 4) dYes (dTup (dStar (dVar 3) (dCons (dVar 4) dNil))) [3, 4] [4])))
 (dRet (dVar 1))))
abbrev N_number_at : List Str := ["p", "word", "tables", "point", "table"]
theorem st_number_at (a0 a1 a2 a3 : D) : startD N_number_at [a0, a1, a2, a3] = [some a0, some a1, some a2, some a3, none] := rfl
def t_number_at : DTS :=
 (dRet (dCall sp_number_of (dCons (dVar 0) (dCons (dVar 1) (dCons (dLcE (dLc (dSeqI (dVar 2)) (dgName 4) dYes (dCall sp_extension (dCons (dVar 0) (dCons (dVar 4) (dCons (dVar 3) dNil)))) [4])) dNil)))))
abbrev N_rest_sum : List Str := ["p", "word", "tables", "challenges", "left", "point"]
theorem st_rest_sum (a0 a1 a2 a3 : D) : startD N_rest_sum [a0, a1, a2, a3] = [some a0, some a1, some a2, some a3, none, none] := rfl
def t_rest_sum : DTS :=
 (dSeq (dAsg (dOp rSubD (dCall sp_bits_of (dCons (dOp rIx (dVar 2) (dC (.int 0))) dNil)) (dCB rLen (dCons (dVar 3) dNil))) (dgName 4))
 (dRet (dCall sp_summed (dCons (dVar 0) (dCons (dLcE (dLc (dSeqI (dCall sp_all_points (dCons (dVar 4) dNil))) (dgName 5) dYes (dCall sp_number_at (dCons (dVar 0) (dCons (dVar 1) (dCons (dVar 2) (dCons (dTup (dStar (dVar 3) (dStar (dVar 5) dNil))) dNil))))) [5])) dNil)))))
abbrev N_fixed_all : List Str := ["p", "tables", "number", "table"]
theorem st_fixed_all (a0 a1 a2 : D) : startD N_fixed_all [a0, a1, a2] = [some a0, some a1, some a2, none] := rfl
def t_fixed_all : DTS :=
 (dRet (dLcT (dLc (dSeqI (dVar 1)) (dgName 3) dYes (dCall sp_fixed (dCons (dVar 0) (dCons (dVar 3) (dCons (dVar 2) dNil)))) [3])))
abbrev N_round_of : List Str := ["p", "word", "tables", "number"]
theorem st_round_of (a0 a1 a2 : D) : startD N_round_of [a0, a1, a2] = [some a0, some a1, some a2, none] := rfl
def t_round_of : DTS :=
 (dRet (dLcT (dLc (dRange1 (dCons (dOp rAddD (dCall sp_degree_of (dCons (dVar 1) dNil)) (dC (.int 1))) dNil)) (dgName 3) dYes (dCall sp_whole_sum (dCons (dVar 0) (dCons (dVar 1) (dCons (dCall sp_fixed_all (dCons (dVar 0) (dCons (dVar 2) (dCons (dVar 3) dNil)))) dNil)))) [3])))
abbrev N_Summer___init__ : List Str := ["self", "p", "word", "tables"]
theorem st_Summer___init__ (a0 a1 a2 a3 : D) : startD N_Summer___init__ [a0, a1, a2, a3] = [some a0, some a1, some a2, some a3] := rfl
def t_Summer___init__ : DTS :=
 (dSeq (dAsg (dTup (dCons (dVar 1) (dCons (dVar 2) (dCons (dCB rTupleOf (dCons (dVar 3) dNil)) dNil)))) (dgTup 3 (dgCons (dgFld ClsA.Summer "its_p" (dVar 0)) (dgCons (dgFld ClsA.Summer "its_word" (dVar 0)) (dgCons (dgFld ClsA.Summer "its_tables" (dVar 0)) dgNil)))))
 (dFldS ClsA.Summer "its_point" (dVar 0) (dTup dNil)))
abbrev N_Summer_told : List Str := ["self"]
theorem st_Summer_told (a0 : D) : startD N_Summer_told [a0] = [some a0] := rfl
def t_Summer_told : DTS :=
 (dRet (dCall sp_round_of (dCons (dFld ClsA.Summer "its_p" (dVar 0)) (dCons (dFld ClsA.Summer "its_word" (dVar 0)) (dCons (dFld ClsA.Summer "its_tables" (dVar 0)) dNil)))))
abbrev N_Summer_draw : List Str := ["self", "number"]
theorem st_Summer_draw (a0 a1 : D) : startD N_Summer_draw [a0, a1] = [some a0, some a1] := rfl
def t_Summer_draw : DTS :=
 (dSeq (dFldS ClsA.Summer "its_tables" (dVar 0) (dCall sp_fixed_all (dCons (dFld ClsA.Summer "its_p" (dVar 0)) (dCons (dFld ClsA.Summer "its_tables" (dVar 0)) (dCons (dVar 1) dNil)))))
 (dFldS ClsA.Summer "its_point" (dVar 0) (dTup (dStar (dFld ClsA.Summer "its_point" (dVar 0)) (dCons (dVar 1) dNil)))))
abbrev N_rounds_of : List Str := ["p", "word", "tables", "challenges", "summer", "found", "number"]
theorem st_rounds_of (a0 a1 a2 a3 : D) : startD N_rounds_of [a0, a1, a2, a3] = [some a0, some a1, some a2, some a3, none, none, none] := rfl
def t_rounds_of : DTS :=
 (dSeq (dPar 4 5 (dCons (dMake ClsA.Summer sp_Summer___init__ (dCons (dVar 0) (dCons (dVar 1) (dCons (dVar 2) dNil)))) (dCons (dLst dNil) dNil)))
 (dSeq (dFor (dSeqI (dVar 3)) (dgName 6)
 (dSeq (dDrop (dBmL rAppendD (dVar 5) (dCons (dMeth ClsA.Summer "told" sp_Summer_told (dVar 4) dNil) dNil)))
 (dDrop (dMeth ClsA.Summer "draw" sp_Summer_draw (dVar 4) (dCons (dVar 6) dNil)))))
 (dRet (dCB rTupleOf (dCons (dVar 5) dNil)))))
abbrev N_last_numbers : List Str := ["p", "word", "tables", "challenges", "table"]
theorem st_last_numbers (a0 a1 a2 a3 : D) : startD N_last_numbers [a0, a1, a2, a3] = [some a0, some a1, some a2, some a3, none] := rfl
def t_last_numbers : DTS :=
 (dRet (dLcT (dLc (dSeqI (dVar 2)) (dgName 4) dYes (dCall sp_extension (dCons (dVar 0) (dCons (dVar 4) (dCons (dVar 3) dNil)))) [4])))
abbrev N_does_open : List Str := ["p", "value", "told"]
theorem st_does_open (a0 a1 a2 : D) : startD N_does_open [a0, a1, a2] = [some a0, some a1, some a2] := rfl
def t_does_open : DTS :=
 (dRet (dOp rEqU (dOp rModD (dOp rSubD (dOp rAddD (dOp rIx (dVar 2) (dC (.int 0))) (dOp rIx (dVar 2) (dC (.int 1)))) (dVar 1)) (dVar 0)) (dC (.int 0))))
abbrev N_next_value : List Str := ["p", "told", "challenge"]
theorem st_next_value (a0 a1 a2 : D) : startD N_next_value [a0, a1, a2] = [some a0, some a1, some a2] := rfl
def t_next_value : DTS :=
 (dRet (dCall sp_value_at (dCons (dVar 0) (dCons (dVar 1) (dCons (dVar 2) dNil)))))
abbrev N_values_ahead : List Str := ["p", "value", "rounds", "challenges", "found", "told", "challenge"]
theorem st_values_ahead (a0 a1 a2 a3 : D) : startD N_values_ahead [a0, a1, a2, a3] = [some a0, some a1, some a2, some a3, none, none, none] := rfl
def t_values_ahead : DTS :=
 (dSeq (dAsg (dLst (dCons (dVar 1) dNil)) (dgName 4))
 (dSeq (dFor (dZip2 (dCons (dVar 2) (dCons (dVar 3) dNil))) (dgTup 2 (dgCons (dgName 5) (dgCons (dgName 6) dgNil)))
 (dDrop (dBmL rAppendD (dVar 4) (dCons (dCall sp_next_value (dCons (dVar 0) (dCons (dVar 5) (dCons (dVar 6) dNil)))) dNil))))
 (dRet (dVar 4))))
abbrev N_round_fault : List Str := ["p", "value", "rounds", "challenges", "at", "here", "told"]
theorem st_round_fault (a0 a1 a2 a3 : D) : startD N_round_fault [a0, a1, a2, a3] = [some a0, some a1, some a2, some a3, none, none, none] := rfl
def t_round_fault : DTS :=
 (dSeq (dFor (dEnumZ (dCons (dCall sp_values_ahead (dCons (dVar 0) (dCons (dVar 1) (dCons (dVar 2) (dCons (dVar 3) dNil))))) (dCons (dVar 2) dNil))) (dgTup 2 (dgCons (dgName 4) (dgCons (dgTup 2 (dgCons (dgName 5) (dgCons (dgName 6) dgNil))) dgNil)))
 (dIfS (dNot (dTest (dCall sp_does_open (dCons (dVar 0) (dCons (dVar 5) (dCons (dVar 6) dNil))))))
 (dRet (dVar 4))
 dNext))
 (dRet (dC .non)))
abbrev N_last_value : List Str := ["p", "value", "rounds", "challenges"]
theorem st_last_value (a0 a1 a2 a3 : D) : startD N_last_value [a0, a1, a2, a3] = [some a0, some a1, some a2, some a3] := rfl
def t_last_value : DTS :=
 (dRet (dOp rIx (dCall sp_values_ahead (dCons (dVar 0) (dCons (dVar 1) (dCons (dVar 2) (dCons (dVar 3) dNil))))) (dUn rNegD (dC (.int 1)))))
abbrev N_missed : List Str := ["p", "word", "tables", "value", "rounds", "challenges", "values", "true", "some", "at", "here"]
theorem st_missed (a0 a1 a2 a3 a4 a5 : D) : startD N_missed [a0, a1, a2, a3, a4, a5] = [some a0, some a1, some a2, some a3, some a4, some a5, none, none, none, none, none] := rfl
def t_missed : DTS :=
 (dSeq (dAsg (dCall sp_values_ahead (dCons (dVar 0) (dCons (dVar 3) (dCons (dVar 4) (dCons (dVar 5) dNil))))) (dgName 6))
 (dSeq (dAsg (dLcE (dLc (dEnum (dCons (dVar 6) dNil)) (dgTup 2 (dgCons (dgName 9) (dgCons (dgName 10) dgNil))) dYes (dOp rEqU (dVar 10) (dCall sp_rest_sum (dCons (dVar 0) (dCons (dVar 1) (dCons (dVar 2) (dCons (dSl (dVar 5) dNoPart (dPart (dVar 9))) dNil)))))) [9, 10])) (dgName 7))
 (dSeq (dLcSet 8 (dLc (dRange1 (dCons (dCB rLen (dCons (dVar 4) dNil)) dNil)) (dgName 9) (dAnd (dNot (dTest (dOp rIx (dVar 7) (dVar 9)))) (dTest (dOp rIx (dVar 7) (dOp rAddD (dVar 9) (dC (.int 1)))))) (dVar 9) [9]))
 (dRet (dIf (dTest (dOp rNeU (dVar 8) (dLst dNil))) (dOp rIx (dVar 8) (dC (.int 0))) (dC .non))))))
abbrev N__law_bag : List Str := ["script", "cell"]
theorem st__law_bag (a0 : D) : startD N__law_bag [a0] = [some a0, none] := rfl
def t__law_bag : DTS :=
 (dRet (dLst (dCons (dC (.int 0)) (dCons (dC (.int 1234567891)) (dCons (dC (.int 0)) (dCons (dLcE (dLc (dSeqI (dSl (dVar 0) dNoPart (dPart (dC (.int 63))))) (dgName 1) dYes (dCB rAbs (dCons (dVar 1) dNil)) [1])) dNil))))))
abbrev N__law_take : List Str := ["bag", "many", "cell", "stirred", "value", "begin", "second"]
theorem st__law_take (a0 a1 : D) : startD N__law_take [a0, a1] = [some a0, some a1, none, none, none, none, none] := rfl
def t__law_take : DTS :=
 (dSeq (dIfS (dTest (dOp rEqU (dOp rIx (dVar 0) (dC (.int 0))) (dC (.int 0))))
 (dSeq (dAsg (dOp rIx (dOp rAddD (dSl (dOp rIx (dVar 0) (dC (.int 3))) (dPart (dOp rIx (dVar 0) (dC (.int 2)))) dNoPart) (dLst (dCons (dC (.int 0)) dNil))) (dC (.int 0))) (dgName 2))
 (dSeq (dAugI rIpAdd (dVar 0) (dC (.int 2)) (dC (.int 1)))
 (dSeq (dIfS (dTest (dOp (rIB fun i j => decide (j ≤ i)) (dVar 2) (dOp rPowD (dC (.int 10)) (dC (.int 18)))))
 (dAsg (dVar 2) (dgSub (dVar 0) (dC (.int 0))))
 dNext)
 (dSeq (dAsg (dOp rAddD (dOp rAddD (dOp rMulD (dOp rIx (dVar 0) (dC (.int 1))) (dC (.int 48271))) (dOp rModD (dCB rInt (dCons (dVar 2) dNil)) (dC (.int 2147483647)))) (dOp rMulD (dC (.int 7919)) (dOp rIx (dVar 0) (dC (.int 2))))) (dgName 3))
 (dAsg (dOp rModD (dCB rInt (dCons (dVar 3) dNil)) (dC (.int 2147483647))) (dgSub (dVar 0) (dC (.int 1))))))))
 dNext)
 (dSeq (dIfS (dTest (dOp (rIB fun i j => decide (j < i)) (dOp rIx (dVar 0) (dC (.int 0))) (dC (.int 0))))
 (dSeq (dAsg (dOp rModD (dCB rInt (dCons (dOp rIx (dVar 0) (dC (.int 0))) dNil)) (dVar 1)) (dgName 4))
 (dSeq (dAsg (dOp rDivW (dCB rInt (dCons (dOp rIx (dVar 0) (dC (.int 0))) dNil)) (dVar 1)) (dgSub (dVar 0) (dC (.int 0))))
 (dRet (dVar 4))))
 dNext)
 (dSeq (dAsg (dOp rModD (dCB rInt (dCons (dOp rMulD (dOp rAddD (dOp rIx (dVar 0) (dC (.int 1))) (dC (.int 1))) (dC (.int 39373))) dNil)) (dC (.int 1000000007))) (dgName 5))
 (dSeq (dAsg (dOp rModD (dCB rInt (dCons (dOp rMulD (dOp rModD (dCB rInt (dCons (dOp rMulD (dVar 5) (dVar 5)) dNil)) (dC (.int 998244353))) (dC (.int 30011))) dNil)) (dC (.int 998244353))) (dgName 6))
 (dRet (dOp rModD (dCB rInt (dCons (dOp rDivW (dVar 6) (dC (.int 7))) dNil)) (dVar 1)))))))
abbrev N__law_some : List Str := ["bag", "things"]
theorem st__law_some (a0 a1 : D) : startD N__law_some [a0, a1] = [some a0, some a1] := rfl
def t__law_some : DTS :=
 (dRet (dOp rIx (dVar 1) (dCall sp__law_take (dCons (dVar 0) (dCons (dCB rLen (dCons (dVar 1) dNil)) dNil)))))
abbrev N__law_alike : List Str := ["found", "due", "pairs", "at", "one", "other"]
theorem st__law_alike (a0 a1 : D) : startD N__law_alike [a0, a1] = [some a0, some a1, none, none, none, none] := rfl
def t__law_alike : DTS :=
 (dSeq (dPar 2 3 (dCons (dLst (dCons (dTup (dCons (dVar 0) (dCons (dVar 1) dNil))) dNil)) (dCons (dC (.int 0)) dNil)))
 (dSeq (dWhile (dTest (dOp (rIB fun i j => decide (i < j)) (dVar 3) (dCB rLen (dCons (dVar 2) dNil))))
 (dSeq (dAsg (dOp rIx (dVar 2) (dVar 3)) (dgTup 2 (dgCons (dgName 4) (dgCons (dgName 5) dgNil))))
 (dSeq (dAug 3 rIpAdd (dC (.int 1)))
 (dSeq (dIfS (dOr (dTest (dOp rNeU (dCB rIsi1 (dCons (dVar 4) (dCons (dC (.ty "bool")) dNil))) (dCB rIsi1 (dCons (dVar 5) (dCons (dC (.ty "bool")) dNil))))) (dTest (dOp rNeU (dCB rIsi1 (dCons (dVar 4) (dCons (dC (.ty "str")) dNil))) (dCB rIsi1 (dCons (dVar 5) (dCons (dC (.ty "str")) dNil))))))
 (dRet (dC (.bl false)))
 dNext)
 (dSeq (dIfS (dTest (dOp rNeU (dIsiT ["tuple", "list"] (dVar 4)) (dIsiT ["tuple", "list"] (dVar 5))))
 (dRet (dC (.bl false)))
 dNext)
 (dIfS (dTest (dIsiT ["tuple", "list"] (dVar 4)))
 (dSeq (dIfS (dOr (dTest (dOp rNeU (dCB rIsi1 (dCons (dVar 4) (dCons (dC (.ty "tuple")) dNil))) (dCB rIsi1 (dCons (dVar 5) (dCons (dC (.ty "tuple")) dNil))))) (dTest (dOp rNeU (dCB rLen (dCons (dVar 4) dNil)) (dCB rLen (dCons (dVar 5) dNil)))))
 (dRet (dC (.bl false)))
 dNext)
 (dDrop (dBmL rExtendD (dVar 2) (dCons (dListZip (dCons (dVar 4) (dCons (dVar 5) dNil))) dNil))))
 (dIfS (dTest (dOp rNeU (dVar 4) (dVar 5)))
 (dRet (dC (.bl false)))
 dNext)))))))
 (dRet (dC (.bl true)))))
abbrev N__law_inverse : List Str := ["p", "one", "found", "base", "many"]
theorem st__law_inverse (a0 a1 : D) : startD N__law_inverse [a0, a1] = [some a0, some a1, none, none, none] := rfl
def t__law_inverse : DTS :=
 (dSeq (dPar3 2 3 4 (dCons (dC (.int 1)) (dCons (dOp rModD (dCB rInt (dCons (dVar 1) dNil)) (dVar 0)) (dCons (dOp rSubD (dVar 0) (dC (.int 2))) dNil))))
 (dSeq (dWhile (dTest (dOp (rIB fun i j => decide (j < i)) (dVar 4) (dC (.int 0))))
 (dSeq (dIfS (dTest (dOp rEqU (dOp rModD (dCB rInt (dCons (dVar 4) dNil)) (dC (.int 2))) (dC (.int 1))))
 (dAsg (dOp rModD (dCB rInt (dCons (dOp rMulD (dVar 2) (dVar 3)) dNil)) (dVar 0)) (dgName 2))
 dNext)
 (dPar 3 4 (dCons (dOp rModD (dCB rInt (dCons (dOp rMulD (dVar 3) (dVar 3)) dNil)) (dVar 0)) (dCons (dOp rDivD (dCB rInt (dCons (dVar 4) dNil)) (dC (.int 2))) dNil)))))
 (dRet (dVar 2))))
abbrev N__law_curve : List Str := ["p", "values", "number", "found", "place", "value", "over", "under", "other"]
theorem st__law_curve (a0 a1 a2 : D) : startD N__law_curve [a0, a1, a2] = [some a0, some a1, some a2, none, none, none, none, none, none] := rfl
def t__law_curve : DTS :=
 (dSeq (dAsg (dC (.int 0)) (dgName 3))
 (dSeq (dFor (dEnum (dCons (dVar 1) dNil)) (dgTup 2 (dgCons (dgName 4) (dgCons (dgName 5) dgNil)))
 (dSeq (dPar 6 7 (dCons (dVar 5) (dCons (dC (.int 1)) dNil)))
 (dSeq (dFor (dRange1 (dCons (dCB rLen (dCons (dVar 1) dNil)) dNil)) (dgName 8)
 (dIfS (dTest (dOp rNeU (dVar 8) (dVar 4)))
 (dPar 6 7 (dCons (dOp rModD (dCB rInt (dCons (dOp rMulD (dVar 6) (dOp rSubD (dVar 2) (dVar 8))) dNil)) (dVar 0)) (dCons (dOp rModD (dCB rInt (dCons (dOp rMulD (dVar 7) (dOp rSubD (dVar 4) (dVar 8))) dNil)) (dVar 0)) dNil)))
 dNext))
 (dAsg (dOp rModD (dCB rInt (dCons (dOp rAddD (dVar 3) (dOp rMulD (dVar 6) (dCall sp__law_inverse (dCons (dVar 0) (dCons (dVar 7) dNil))))) dNil)) (dVar 0)) (dgName 3)))))
 (dRet (dVar 3))))
abbrev N__law_bits : List Str := ["index", "many", "at"]
theorem st__law_bits (a0 a1 : D) : startD N__law_bits [a0, a1] = [some a0, some a1, none] := rfl
def t__law_bits : DTS :=
 (dRet (dLcE (dLc (dRange1 (dCons (dVar 1) dNil)) (dgName 2) dYes (dOp rModD (dCB rInt (dCons (dOp rShrD (dVar 0) (dOp rSubD (dOp rSubD (dVar 1) (dC (.int 1))) (dVar 2))) dNil)) (dC (.int 2))) [2])))
abbrev N__law_weight : List Str := ["p", "bits", "point", "found", "bit", "number"]
theorem st__law_weight (a0 a1 a2 : D) : startD N__law_weight [a0, a1, a2] = [some a0, some a1, some a2, none, none, none] := rfl
def t__law_weight : DTS :=
 (dSeq (dAsg (dC (.int 1)) (dgName 3))
 (dSeq (dFor (dZip2 (dCons (dVar 1) (dCons (dVar 2) dNil))) (dgTup 2 (dgCons (dgName 4) (dgCons (dgName 5) dgNil)))
 (dAsg (dOp rModD (dCB rInt (dCons (dOp rMulD (dVar 3) (dIf (dTest (dOp rEqU (dVar 4) (dC (.int 1)))) (dVar 5) (dOp rSubD (dC (.int 1)) (dVar 5)))) dNil)) (dVar 0)) (dgName 3)))
 (dRet (dVar 3))))
abbrev N__law_extension : List Str := ["p", "table", "point", "many", "at", "number"]
theorem st__law_extension (a0 a1 a2 : D) : startD N__law_extension [a0, a1, a2] = [some a0, some a1, some a2, none, none, none] := rfl
def t__law_extension : DTS :=
 (dSeq (dAsg (dCB rLen (dCons (dVar 2) dNil)) (dgName 3))
 (dRet (dOp rModD (dCB rInt (dCons (dLcS (dLc (dEnum (dCons (dVar 1) dNil)) (dgTup 2 (dgCons (dgName 4) (dgCons (dgName 5) dgNil))) dYes (dOp rMulD (dVar 5) (dCall sp__law_weight (dCons (dVar 0) (dCons (dCall sp__law_bits (dCons (dVar 4) (dCons (dVar 3) dNil))) (dCons (dVar 2) dNil))))) [4, 5])) dNil)) (dVar 0))))
abbrev N__law_size : List Str := ["table", "found", "many"]
theorem st__law_size (a0 : D) : startD N__law_size [a0] = [some a0, none, none] := rfl
def t__law_size : DTS :=
 (dSeq (dAsg (dTup (dCons (dC (.int 0)) (dCons (dC (.int 1)) dNil))) (dgTup 2 (dgCons (dgName 1) (dgCons (dgName 2) dgNil))))
 (dSeq (dWhile (dTest (dOp (rIB fun i j => decide (i < j)) (dVar 2) (dCB rLen (dCons (dVar 0) dNil))))
 (dPar 1 2 (dCons (dOp rAddD (dVar 1) (dC (.int 1))) (dCons (dOp rMulD (dVar 2) (dC (.int 2))) dNil))))
 (dRet (dVar 1))))
abbrev N__law_all_bits : List Str := ["many", "found", "bit", "longer", "some"]
theorem st__law_all_bits (a0 : D) : startD N__law_all_bits [a0] = [some a0, none, none, none, none] := rfl
def t__law_all_bits : DTS :=
 (dSeq (dAsg (dLst (dCons (dTup dNil) dNil)) (dgName 1))
 (dSeq (dFor (dRange1 (dCons (dVar 0) dNil)) (dgName 2)
 (dSeq (dAsg (dLst dNil) (dgName 3))
 (dSeq (dFor (dSeqI (dVar 1)) (dgName 4)
 (dDrop (dBmL rExtendD (dVar 3) (dCons (dLst (dCons (dOp rAddD (dVar 4) (dTup (dCons (dC (.int 0)) dNil))) (dCons (dOp rAddD (dVar 4) (dTup (dCons (dC (.int 1)) dNil))) dNil))) dNil))))
 (dAsg (dVar 3) (dgName 1)))))
 (dRet (dVar 1))))
abbrev N__law_number : List Str := ["p", "word", "values", "found", "value"]
theorem st__law_number (a0 a1 a2 : D) : startD N__law_number [a0, a1, a2] = [some a0, some a1, some a2, none, none] := rfl
def t__law_number : DTS :=
 (dSeq (dIfS (dTest (dOp rEqU (dVar 1) (dC (.str "choice"))))
 (dRet (dOp rModD (dCB rInt (dCons (dOp rMulD (dOp rIx (dVar 2) (dC (.int 0))) (dOp rAddD (dOp rMulD (dOp rIx (dVar 2) (dC (.int 1))) (dOp rIx (dVar 2) (dC (.int 2)))) (dOp rMulD (dOp rSubD (dC (.int 1)) (dOp rIx (dVar 2) (dC (.int 1)))) (dOp rIx (dVar 2) (dC (.int 3)))))) dNil)) (dVar 0)))
 dNext)
 (dSeq (dAsg (dC (.int 1)) (dgName 3))
 (dSeq (dFor (dSeqI (dVar 2)) (dgName 4)
 (dAsg (dOp rModD (dCB rInt (dCons (dOp rMulD (dVar 3) (dVar 4)) dNil)) (dVar 0)) (dgName 3)))
 (dRet (dVar 3)))))
abbrev N__law_rest : List Str := ["p", "word", "tables", "challenges", "left", "found", "rest", "table"]
theorem st__law_rest (a0 a1 a2 a3 : D) : startD N__law_rest [a0, a1, a2, a3] = [some a0, some a1, some a2, some a3, none, none, none, none] := rfl
def t__law_rest : DTS :=
 (dSeq (dPar 4 5 (dCons (dOp rSubD (dCall sp__law_size (dCons (dOp rIx (dVar 2) (dC (.int 0))) dNil)) (dCB rLen (dCons (dVar 3) dNil))) (dCons (dC (.int 0)) dNil)))
 (dSeq (dFor (dSeqI (dCall sp__law_all_bits (dCons (dVar 4) dNil))) (dgName 6)
 (dAug 5 rIpAdd (dCall sp__law_number (dCons (dVar 0) (dCons (dVar 1) (dCons (dLcE (dLc (dSeqI (dVar 2)) (dgName 7) dYes (dCall sp__law_extension (dCons (dVar 0) (dCons (dVar 7) (dCons (dOp rAddD (dVar 3) (dVar 6)) dNil)))) [7])) dNil))))))
 (dRet (dOp rModD (dCB rInt (dCons (dVar 5) dNil)) (dVar 0)))))
abbrev N__law_values : List Str := ["p", "value", "rounds", "challenges", "found", "told", "challenge"]
theorem st__law_values (a0 a1 a2 a3 : D) : startD N__law_values [a0, a1, a2, a3] = [some a0, some a1, some a2, some a3, none, none, none] := rfl
def t__law_values : DTS :=
 (dSeq (dAsg (dLst (dCons (dVar 1) dNil)) (dgName 4))
 (dSeq (dFor (dZip2 (dCons (dVar 2) (dCons (dVar 3) dNil))) (dgTup 2 (dgCons (dgName 5) (dgCons (dgName 6) dgNil)))
 (dDrop (dBmL rAppendD (dVar 4) (dCons (dCall sp__law_curve (dCons (dVar 0) (dCons (dVar 5) (dCons (dVar 6) dNil)))) dNil))))
 (dRet (dVar 4))))
abbrev N__law_first_fault : List Str := ["p", "values", "rounds", "at", "told"]
theorem st__law_first_fault (a0 a1 a2 : D) : startD N__law_first_fault [a0, a1, a2] = [some a0, some a1, some a2, none, none] := rfl
def t__law_first_fault : DTS :=
 (dSeq (dFor (dEnum (dCons (dVar 2) dNil)) (dgTup 2 (dgCons (dgName 3) (dgCons (dgName 4) dgNil)))
 (dIfS (dTest (dOp rNeU (dOp rModD (dCB rInt (dCons (dOp rSubD (dOp rAddD (dOp rIx (dVar 4) (dC (.int 0))) (dOp rIx (dVar 4) (dC (.int 1)))) (dOp rIx (dVar 1) (dVar 3))) dNil)) (dVar 0)) (dC (.int 0))))
 (dRet (dVar 3))
 dNext))
 (dRet (dC .non)))
abbrev N__law_first_missed : List Str := ["p", "word", "tables", "values", "challenges", "right", "some", "at"]
theorem st__law_first_missed (a0 a1 a2 a3 a4 : D) : startD N__law_first_missed [a0, a1, a2, a3, a4] = [some a0, some a1, some a2, some a3, some a4, none, none, none] := rfl
def t__law_first_missed : DTS :=
 (dSeq (dAsg (dLcE (dLc (dRange1 (dCons (dCB rLen (dCons (dVar 3) dNil)) dNil)) (dgName 7) dYes (dOp rEqU (dOp rIx (dVar 3) (dVar 7)) (dCall sp__law_rest (dCons (dVar 0) (dCons (dVar 1) (dCons (dVar 2) (dCons (dSl (dVar 4) dNoPart (dPart (dVar 7))) dNil)))))) [7])) (dgName 5))
 (dSeq (dLcSet 6 (dLc (dRange1 (dCons (dOp rSubD (dCB rLen (dCons (dVar 3) dNil)) (dC (.int 1))) dNil)) (dgName 7) (dAnd (dNot (dTest (dOp rIx (dVar 5) (dVar 7)))) (dTest (dOp rIx (dVar 5) (dOp rAddD (dVar 7) (dC (.int 1)))))) (dVar 7) [7]))
 (dRet (dIf (dTest (dOp rNeU (dVar 6) (dLst dNil))) (dOp rIx (dVar 6) (dC (.int 0))) (dC .non)))))
abbrev N__law_false_rounds : List Str := ["bag", "p", "word", "tables", "value", "degree", "bits", "rounds", "challenges", "here", "at", "due", "lack", "told", "meet", "challenge", "number"]
theorem st__law_false_rounds (a0 a1 a2 a3 a4 a5 a6 : D) : startD N__law_false_rounds [a0, a1, a2, a3, a4, a5, a6] = [some a0, some a1, some a2, some a3, some a4, some a5, some a6, none, none, none, none, none, none, none, none, none, none] := rfl
def t__law_false_rounds : DTS :=
 (dSeq (dAsg (dTup (dCons (dLst dNil) (dCons (dTup dNil) (dCons (dVar 4) dNil)))) (dgTup 3 (dgCons (dgName 7) (dgCons (dgName 8) (dgCons (dgName 9) dgNil)))))
 (dSeq (dFor (dRange1 (dCons (dVar 6) dNil)) (dgName 10)
 (dSeq (dAsg (dLcE (dLc (dRange1 (dCons (dOp rAddD (dVar 5) (dC (.int 1))) dNil)) (dgName 16) dYes (dCall sp__law_rest (dCons (dVar 1) (dCons (dVar 2) (dCons (dVar 3) (dCons (dOp rAddD (dVar 8) (dTup (dCons (dVar 16) dNil))) dNil))))) [16])) (dgName 11))
 (dSeq (dAsg (dOp rModD (dCB rInt (dCons (dOp rSubD (dOp rSubD (dVar 9) (dOp rIx (dVar 11) (dC (.int 0)))) (dOp rIx (dVar 11) (dC (.int 1)))) dNil)) (dVar 1)) (dgName 12))
 (dSeq (dAsg (dCB rListOf (dCons (dVar 11) dNil)) (dgName 13))
 (dSeq (dAsg (dOp rModD (dCB rInt (dCons (dOp rAddD (dOp rIx (dVar 13) (dC (.int 0))) (dVar 12)) dNil)) (dVar 1)) (dgSub (dVar 13) (dC (.int 0))))
 (dSeq (dIfS (dTest (dOp rEqU (dCall sp__law_take (dCons (dVar 0) (dCons (dC (.int 2)) dNil))) (dC (.int 0))))
 (dSeq (dAsg (dCB rListOf (dCons (dVar 11) dNil)) (dgName 13))
 (dAsg (dOp rModD (dCB rInt (dCons (dOp rAddD (dOp rIx (dVar 13) (dC (.int 1))) (dVar 12)) dNil)) (dVar 1)) (dgSub (dVar 13) (dC (.int 1)))))
 dNext)
 (dSeq (dLcSet 14 (dLc (dRange1 (dCons (dCB rMin2 (dCons (dVar 1) (dCons (dC (.int 40)) dNil))) dNil)) (dgName 16) (dTest (dOp rEqU (dCall sp__law_curve (dCons (dVar 1) (dCons (dVar 13) (dCons (dVar 16) dNil)))) (dCall sp__law_curve (dCons (dVar 1) (dCons (dVar 11) (dCons (dVar 16) dNil)))))) (dVar 16) [16]))
 (dSeq (dAsg (dIf (dAnd (dTest (dOp rNeU (dVar 14) (dLst dNil))) (dTest (dOp rEqU (dCall sp__law_take (dCons (dVar 0) (dCons (dC (.int 3)) dNil))) (dC (.int 0))))) (dCall sp__law_some (dCons (dVar 0) (dCons (dVar 14) dNil))) (dCall sp__law_take (dCons (dVar 0) (dCons (dVar 1) dNil)))) (dgName 15))
 (dSeq (dDrop (dBmL rAppendD (dVar 7) (dCons (dCB rTupleOf (dCons (dVar 13) dNil)) dNil)))
 (dAsg (dTup (dCons (dOp rAddD (dVar 8) (dTup (dCons (dVar 15) dNil))) (dCons (dCall sp__law_curve (dCons (dVar 1) (dCons (dVar 13) (dCons (dVar 15) dNil)))) dNil))) (dgTup 2 (dgCons (dgName 8) (dgCons (dgName 9) dgNil)))))))))))))
 (dRet (dTup (dCons (dCB rTupleOf (dCons (dVar 7) dNil)) (dCons (dVar 8) dNil))))))
abbrev N_law : List Str := ["script", "bag", "turn", "p", "word", "bits", "many", "degree", "at", "tables", "whole", "value", "rounds", "challenges", "spoil", "place", "one", "values", "fault", "luck", "found", "due", "right", "honest", "table"]
theorem st_law (a0 : D) : startD N_law [a0] = [some a0, none, none, none, none, none, none, none, none, none, none, none, none, none, none, none, none, none, none, none, none, none, none, none, none] := rfl
def t_law : DTS :=
 (dSeq (dAsg (dCall sp__law_bag (dCons (dVar 0) dNil)) (dgName 1))
 (dSeq (dFor (dRange1 (dCons (dC (.int 6)) dNil)) (dgName 2)
 (dSeq (dAsg (dTup (dCons (dCall sp__law_some (dCons (dVar 1) (dCons (dLst (dCons (dC (.int 5)) (dCons (dC (.int 7)) (dCons (dC (.int 11)) (dCons (dC (.int 1000003)) dNil))))) dNil))) (dCons (dCall sp__law_some (dCons (dVar 1) (dCons (dLst (dCons (dC (.str "one")) (dCons (dC (.str "two")) (dCons (dC (.str "three")) (dCons (dC (.str "choice")) dNil))))) dNil))) (dCons (dOp rAddD (dC (.int 1)) (dCall sp__law_take (dCons (dVar 1) (dCons (dC (.int 3)) dNil)))) dNil)))) (dgTup 3 (dgCons (dgName 3) (dgCons (dgName 4) (dgCons (dgName 5) dgNil)))))
 (dSeq (dPar 6 7 (dCons (dOp rDGet (dDisp [((dC (.str "one")), (dC (.int 1))), ((dC (.str "two")), (dC (.int 2))), ((dC (.str "three")), (dC (.int 3))), ((dC (.str "choice")), (dC (.int 4)))]) (dVar 4)) (dCons (dOp rDGet (dDisp [((dC (.str "one")), (dC (.int 1))), ((dC (.str "two")), (dC (.int 2))), ((dC (.str "three")), (dC (.int 3))), ((dC (.str "choice")), (dC (.int 3)))]) (dVar 4)) dNil)))
 (dSeq (dAsg (dLcT (dLc (dRange1 (dCons (dVar 6) dNil)) (dgName 24) dYes (dLcT (dLc (dRange1 (dCons (dOp rShlD (dC (.int 1)) (dVar 5)) dNil)) (dgName 8) dYes (dCall sp__law_take (dCons (dVar 1) (dCons (dVar 3) dNil))) [8])) [24])) (dgName 9))
 (dSeq (dAsg (dCall sp__law_rest (dCons (dVar 3) (dCons (dVar 4) (dCons (dVar 9) (dCons (dTup dNil) dNil))))) (dgName 10))
 (dSeq (dAsg (dCall sp__law_some (dCons (dVar 1) (dCons (dLst (dCons (dVar 10) (dCons (dOp rModD (dCB rInt (dCons (dOp rAddD (dOp rAddD (dVar 10) (dC (.int 1))) (dCall sp__law_take (dCons (dVar 1) (dCons (dOp rSubD (dVar 3) (dC (.int 1))) dNil)))) dNil)) (dVar 3)) (dCons (dOp rModD (dCB rInt (dCons (dOp rAddD (dOp rAddD (dVar 10) (dC (.int 1))) (dCall sp__law_take (dCons (dVar 1) (dCons (dOp rSubD (dVar 3) (dC (.int 1))) dNil)))) dNil)) (dVar 3)) dNil)))) dNil))) (dgName 11))
 (dSeq (dAsg (dCall sp__law_false_rounds (dCons (dVar 1) (dCons (dVar 3) (dCons (dVar 4) (dCons (dVar 9) (dCons (dVar 11) (dCons (dVar 7) (dCons (dVar 5) dNil)))))))) (dgTup 2 (dgCons (dgName 12) (dgCons (dgName 13) dgNil))))
 (dSeq (dFor (dRange1 (dCons (dC (.int 2)) dNil)) (dgName 14)
 (dSeq (dIfS (dTest (dOp rEqU (dVar 14) (dC (.int 1))))
 (dSeq (dPar 8 15 (dCons (dCall sp__law_take (dCons (dVar 1) (dCons (dVar 5) dNil))) (dCons (dCall sp__law_take (dCons (dVar 1) (dCons (dOp rAddD (dVar 7) (dC (.int 1))) dNil))) dNil)))
 (dSeq (dAsg (dOp rAddD (dOp rAddD (dSl (dOp rIx (dVar 12) (dVar 8)) dNoPart (dPart (dVar 15))) (dTup (dCons (dCall sp__law_take (dCons (dVar 1) (dCons (dVar 3) dNil))) dNil))) (dSl (dOp rIx (dVar 12) (dVar 8)) (dPart (dOp rAddD (dVar 15) (dC (.int 1)))) dNoPart)) (dgName 16))
 (dAsg (dOp rAddD (dOp rAddD (dSl (dVar 12) dNoPart (dPart (dVar 8))) (dTup (dCons (dVar 16) dNil))) (dSl (dVar 12) (dPart (dOp rAddD (dVar 8) (dC (.int 1)))) dNoPart)) (dgName 12))))
 dNext)
 (dSeq (dAsg (dCall sp__law_values (dCons (dVar 3) (dCons (dVar 11) (dCons (dVar 12) (dCons (dVar 13) dNil))))) (dgName 17))
 (dSeq (dPar 18 19 (dCons (dCall sp__law_first_fault (dCons (dVar 3) (dCons (dVar 17) (dCons (dVar 12) dNil)))) (dCons (dCall sp__law_first_missed (dCons (dVar 3) (dCons (dVar 4) (dCons (dVar 9) (dCons (dVar 17) (dCons (dVar 13) dNil)))))) dNil)))
 (dSeq (dLcSet 20 (dLc (dRange1 (dCons (dVar 5) dNil)) (dgName 8) dYes (dCall sp_does_open (dCons (dVar 3) (dCons (dOp rIx (dVar 17) (dVar 8)) (dCons (dOp rIx (dVar 12) (dVar 8)) dNil)))) [8]))
 (dSeq (dLcSet 21 (dLc (dRange1 (dCons (dVar 5) dNil)) (dgName 8) dYes (dOp rEqU (dOp rModD (dCB rInt (dCons (dOp rSubD (dOp rAddD (dOp rIx (dOp rIx (dVar 12) (dVar 8)) (dC (.int 0))) (dOp rIx (dOp rIx (dVar 12) (dVar 8)) (dC (.int 1)))) (dOp rIx (dVar 17) (dVar 8))) dNil)) (dVar 3)) (dC (.int 0))) [8]))
 (dSeq (dAsg (dOp rAddD (dVar 20) (dLcE (dLc (dRange1 (dCons (dVar 5) dNil)) (dgName 8) dYes (dCall sp_next_value (dCons (dVar 3) (dCons (dOp rIx (dVar 12) (dVar 8)) (dCons (dOp rIx (dVar 13) (dVar 8)) dNil)))) [8]))) (dgName 20))
 (dSeq (dAsg (dOp rAddD (dVar 20) (dLst (dCons (dCall sp_round_fault (dCons (dVar 3) (dCons (dVar 11) (dCons (dVar 12) (dCons (dVar 13) dNil))))) (dCons (dCall sp_last_value (dCons (dVar 3) (dCons (dVar 11) (dCons (dVar 12) (dCons (dVar 13) dNil))))) dNil)))) (dgName 20))
 (dSeq (dIfS (dNot (dTest (dCall sp__law_alike (dCons (dVar 20) (dCons (dOp rAddD (dOp rAddD (dVar 21) (dSl (dVar 17) (dPart (dC (.int 1))) dNoPart)) (dLst (dCons (dVar 18) (dCons (dOp rIx (dVar 17) (dUn rNegD (dC (.int 1)))) dNil)))) dNil)))))
 (dRet (dC (.bl false)))
 dNext)
 (dSeq (dIfS (dNot (dTest (dCall sp__law_alike (dCons (dCall sp_missed (dCons (dVar 3) (dCons (dVar 4) (dCons (dVar 9) (dCons (dVar 11) (dCons (dVar 12) (dCons (dVar 13) dNil))))))) (dCons (dVar 19) dNil)))))
 (dRet (dC (.bl false)))
 dNext)
 (dSeq (dAsg (dCall sp__law_rest (dCons (dVar 3) (dCons (dVar 4) (dCons (dVar 9) (dCons (dVar 13) dNil))))) (dgName 22))
 (dSeq (dIfS (dAnd (dTest (dOp rNeU (dVar 11) (dVar 10))) (dAnd (dTest (dOp rIsN (dVar 18) (dC .non))) (dAnd (dTest (dOp rEqU (dOp rIx (dVar 17) (dUn rNegD (dC (.int 1)))) (dVar 22))) (dTest (dOp rIsN (dVar 19) (dC .non))))))
 (dRet (dC (.bl false)))
 dNext)
 (dIfS (dNot (dTest (dCall sp__law_alike (dCons (dCall sp_number_of (dCons (dVar 3) (dCons (dVar 4) (dCons (dCall sp_last_numbers (dCons (dVar 3) (dCons (dVar 4) (dCons (dVar 9) (dCons (dVar 13) dNil))))) dNil)))) (dCons (dVar 22) dNil)))))
 (dRet (dC (.bl false)))
 dNext)))))))))))))
 (dSeq (dAsg (dCall sp_rounds_of (dCons (dVar 3) (dCons (dVar 4) (dCons (dVar 9) (dCons (dVar 13) dNil))))) (dgName 23))
 (dSeq (dAsg (dLst (dCons (dCall sp_whole_sum (dCons (dVar 3) (dCons (dVar 4) (dCons (dVar 9) dNil)))) (dCons (dCall sp_round_fault (dCons (dVar 3) (dCons (dVar 10) (dCons (dVar 23) (dCons (dVar 13) dNil))))) (dCons (dCall sp_last_value (dCons (dVar 3) (dCons (dVar 10) (dCons (dVar 23) (dCons (dVar 13) dNil))))) dNil)))) (dgName 20))
 (dSeq (dIfS (dNot (dTest (dCall sp__law_alike (dCons (dOp rAddD (dVar 20) (dLst (dCons (dCall sp_missed (dCons (dVar 3) (dCons (dVar 4) (dCons (dVar 9) (dCons (dVar 10) (dCons (dVar 23) (dCons (dVar 13) dNil))))))) dNil))) (dCons (dLst (dCons (dVar 10) (dCons (dC .non) (dCons (dVar 22) (dCons (dC .non) dNil))))) dNil)))))
 (dRet (dC (.bl false)))
 dNext)
 (dIfS (dNot (dTest (dCall sp__law_alike (dCons (dLst (dCons (dCall sp_last_value (dCons (dVar 3) (dCons (dVar 11) (dCons (dTup dNil) (dCons (dTup dNil) dNil))))) (dCons (dCall sp_round_fault (dCons (dVar 3) (dCons (dVar 11) (dCons (dTup dNil) (dCons (dTup dNil) dNil))))) dNil))) (dCons (dLst (dCons (dVar 11) (dCons (dC .non) dNil))) dNil)))))
 (dRet (dC (.bl false)))
 dNext))))))))))))
 (dRet (dC (.bl true)))))

theorem len_degree_of : ∀ ds h Q, sp_degree_of ds h Q → ds.length = 1 := by
  rintro _ h Q ⟨_, rfl, _⟩; rfl
theorem len_number_of : ∀ ds h Q, sp_number_of ds h Q → ds.length = 3 := by
  rintro _ h Q ⟨_, _, _, _, rfl, _⟩; rfl
theorem len_whole_sum : ∀ ds h Q, sp_whole_sum ds h Q → ds.length = 3 := by
  rintro _ h Q ⟨_, _, _, _, rfl, _⟩; rfl
theorem len_all_points : ∀ ds h Q, sp_all_points ds h Q → ds.length = 1 := by
  rintro _ h Q ⟨_, rfl, _⟩; rfl
theorem len_number_at : ∀ ds h Q, sp_number_at ds h Q → ds.length = 4 := by
  rintro _ h Q ⟨_, _, _, _, rfl, _⟩; rfl
theorem len_rest_sum : ∀ ds h Q, sp_rest_sum ds h Q → ds.length = 4 := by
  rintro _ h Q ⟨_, _, _, _, _, rfl, _⟩; rfl
theorem len_fixed_all : ∀ ds h Q, sp_fixed_all ds h Q → ds.length = 3 := by
  rintro _ h Q ⟨_, _, _, _, _, rfl, _⟩; rfl
theorem len_round_of : ∀ ds h Q, sp_round_of ds h Q → ds.length = 3 := by
  rintro _ h Q ⟨_, _, _, _, rfl, _⟩; rfl
theorem len_Summer___init__ : ∀ ds h Q, sp_Summer___init__ ds h Q → ds.length = 4 := by
  rintro _ h Q ⟨_, _, _, _, _, rfl, _⟩; rfl
theorem len_Summer_told : ∀ ds h Q, sp_Summer_told ds h Q → ds.length = 1 := by
  rintro _ h Q ⟨_, _, _, _, _, _, _, rfl, _⟩; rfl
theorem len_Summer_draw : ∀ ds h Q, sp_Summer_draw ds h Q → ds.length = 2 := by
  rintro _ h Q ⟨_, _, _, _, _, _, _, _, rfl, _⟩; rfl
theorem len_rounds_of : ∀ ds h Q, sp_rounds_of ds h Q → ds.length = 4 := by
  rintro _ h Q ⟨_, _, _, _, rfl, _⟩; rfl
theorem len_last_numbers : ∀ ds h Q, sp_last_numbers ds h Q → ds.length = 4 := by
  rintro _ h Q ⟨_, _, _, _, rfl, _⟩; rfl
theorem len__law_number : ∀ ds h Q, sp__law_number ds h Q → ds.length = 3 := by
  rintro _ h Q ⟨_, _, _, _, rfl, _⟩; rfl
theorem len__law_rest : ∀ ds h Q, sp__law_rest ds h Q → ds.length = 4 := by
  rintro _ h Q ⟨_, _, _, _, _, rfl, _⟩; rfl
theorem len_does_open : ∀ ds h Q, sp_does_open ds h Q → ds.length = 3 := by
  rintro _ h Q ⟨_, _, _, rfl, _⟩; rfl
theorem len_next_value : ∀ ds h Q, sp_next_value ds h Q → ds.length = 3 := by
  rintro _ h Q ⟨_, _, _, rfl, _⟩; rfl
theorem len_values_ahead : ∀ ds h Q, sp_values_ahead ds h Q → ds.length = 4 := by
  rintro _ h Q ⟨_, _, _, _, rfl, _⟩; rfl
theorem len_round_fault : ∀ ds h Q, sp_round_fault ds h Q → ds.length = 4 := by
  rintro _ h Q ⟨_, _, _, _, rfl, _⟩; rfl
theorem len_last_value : ∀ ds h Q, sp_last_value ds h Q → ds.length = 4 := by
  rintro _ h Q ⟨_, _, _, _, rfl, _⟩; rfl
theorem len_missed : ∀ ds h Q, sp_missed ds h Q → ds.length = 6 := by
  rintro _ h Q ⟨_, _, _, _, _, _, rfl, _⟩; rfl
theorem len__law_curve : ∀ ds h Q, sp__law_curve ds h Q → ds.length = 3 := by
  rintro _ h Q ⟨_, _, _, _, rfl, _⟩; rfl
theorem len__law_values : ∀ ds h Q, sp__law_values ds h Q → ds.length = 4 := by
  rintro _ h Q ⟨_, _, _, _, rfl, _⟩; rfl
theorem len__law_first_fault : ∀ ds h Q, sp__law_first_fault ds h Q → ds.length = 3 := by
  rintro _ h Q ⟨_, _, _, _, _, rfl, _⟩; rfl
theorem len__law_first_missed : ∀ ds h Q, sp__law_first_missed ds h Q → ds.length = 5 := by
  rintro _ h Q ⟨_, _, _, _, _, _, _, rfl, _⟩; rfl
theorem len__law_false_rounds : ∀ ds h Q, sp__law_false_rounds ds h Q → ds.length = 7 := by
  rintro _ h Q ⟨_, _, _, _, _, _, _, rfl, _⟩; rfl
theorem len__law_some : ∀ ds h Q, sp__law_some ds h Q → ds.length = 2 := by
  rintro _ h Q ⟨_, _, _, rfl, _⟩; rfl
theorem len_times : ∀ ds h Q, sp_times ds h Q → ds.length = 3 := by
  rintro _ h Q ⟨_, _, _, rfl, _⟩; rfl
theorem len_summed : ∀ ds h Q, sp_summed ds h Q → ds.length = 2 := by
  rintro _ h Q ⟨_, _, _, rfl, _⟩; rfl
theorem len_product_of : ∀ ds h Q, sp_product_of ds h Q → ds.length = 2 := by
  rintro _ h Q ⟨_, _, _, rfl, _⟩; rfl
theorem len_power : ∀ ds h Q, sp_power ds h Q → ds.length = 3 := by
  rintro _ h Q ⟨_, _, _, rfl, _⟩; rfl
theorem len_inverse : ∀ ds h Q, sp_inverse ds h Q → ds.length = 2 := by
  rintro _ h Q ⟨_, _, rfl, _⟩; rfl
theorem len_basis_at : ∀ ds h Q, sp_basis_at ds h Q → ds.length = 4 := by
  rintro _ h Q ⟨_, _, _, _, rfl, _⟩; rfl
theorem len_value_at : ∀ ds h Q, sp_value_at ds h Q → ds.length = 3 := by
  rintro _ h Q ⟨_, _, _, rfl, _⟩; rfl
theorem len_bits_of : ∀ ds h Q, sp_bits_of ds h Q → ds.length = 1 := by
  rintro _ h Q ⟨_, _, rfl, _⟩; rfl
theorem len_weights : ∀ ds h Q, sp_weights ds h Q → ds.length = 2 := by
  rintro _ h Q ⟨_, _, rfl, _⟩; rfl
theorem len_extension : ∀ ds h Q, sp_extension ds h Q → ds.length = 3 := by
  rintro _ h Q ⟨_, _, _, rfl, _⟩; rfl
theorem len_fixed : ∀ ds h Q, sp_fixed ds h Q → ds.length = 3 := by
  rintro _ h Q ⟨_, _, _, _, rfl, _⟩; rfl
theorem len__law_bag : ∀ ds h Q, sp__law_bag ds h Q → ds.length = 1 := by
  rintro _ h Q ⟨_, rfl, _⟩; rfl
theorem len__law_take : ∀ ds h Q, sp__law_take ds h Q → ds.length = 2 := by
  rintro _ h Q ⟨_, _, rfl, _⟩; rfl
theorem len__law_alike : ∀ ds h Q, sp__law_alike ds h Q → ds.length = 2 := by
  rintro _ h Q ⟨_, _, _, rfl, _⟩; rfl
theorem len__law_inverse : ∀ ds h Q, sp__law_inverse ds h Q → ds.length = 2 := by
  rintro _ h Q ⟨_, _, rfl, _⟩; rfl
theorem len__law_bits : ∀ ds h Q, sp__law_bits ds h Q → ds.length = 2 := by
  rintro _ h Q ⟨_, _, rfl, _⟩; rfl
theorem len__law_weight : ∀ ds h Q, sp__law_weight ds h Q → ds.length = 3 := by
  rintro _ h Q ⟨_, _, _, _, rfl, _⟩; rfl
theorem len__law_extension : ∀ ds h Q, sp__law_extension ds h Q → ds.length = 3 := by
  rintro _ h Q ⟨_, _, _, rfl, _⟩; rfl
theorem len__law_size : ∀ ds h Q, sp__law_size ds h Q → ds.length = 1 := by
  rintro _ h Q ⟨_, _, rfl, _⟩; rfl
theorem len__law_all_bits : ∀ ds h Q, sp__law_all_bits ds h Q → ds.length = 1 := by
  rintro _ h Q ⟨_, rfl, _⟩; rfl

theorem len_law : ∀ ds h Q, spLaw0 ds h Q → ds.length = 1 := by
  rintro _ h Q ⟨_, rfl, _⟩; rfl

theorem p_times : ∀ ds h Q, sp_times ds h Q → t_times (endD Q) (startD N_times ds) h := by
  rintro _ h Q ⟨p, a, b, rfl, hp, hm, q⟩
  exact ⟨hm, hp, h, .refl h, q⟩

theorem p_summed : ∀ ds h Q, sp_summed ds h Q → t_summed (endD Q) (startD N_summed ds) h := by
  rintro _ h Q ⟨p, x, ns, rfl, e, hp, q⟩
  rw [st_summed]; unfold t_summed
  walk_at "D"
  exact sumX_go e ⟨hp, h, .refl h, q⟩

theorem p_product_of : ∀ ds h Q, sp_product_of ds h Q → t_product_of (endD Q) (startD N_product_of ds) h := by
  rintro _ h Q ⟨p, a, ns, rfl, e, hp, q⟩
  rw [st_product_of]; unfold t_product_of
  walk_at "D"
  refine for_mk (fun R r => seqV_lst rfl e r) (fun i σ h' => h' = h ∧ ∃ o f, σ = [some (.int p), some (.ref a), some (.int f), o] ∧ (i = 0 → f = 1) ∧ 0 ≤ f ∧ f < p ∧ f = (ns.take i).foldl (fun f x => f * x % p) 1) ⟨rfl, none, 1, rfl, fun _ => rfl, by decide, hp.1, rfl⟩ ?_ ?_ ?_
  · rintro i σ _ ⟨rfl, _⟩; exact e
  · rintro i d σ _ hd ⟨rfl, o, f, rfl, _, f0, f1, hf⟩
    simp only [List.getElem?_map, Option.map_eq_some_iff] at hd
    obtain ⟨x, hx, rfl⟩ := hd
    walk_at "D"
    have p1 := hp.1
    have p2 := hp.2
    refine ⟨mulC_l (by omega) (by omega), by omega, _, _, rfl, by omega, Int.emod_nonneg _ (by omega), Int.emod_lt_of_pos _ (by omega), ?_⟩
    rw [List.take_add_one, hx, hf]
    simp
  · rintro σ _ ⟨rfl, o, f, rfl, _, f0, f1, hf⟩
    walk_at "D"
    refine ⟨_, .refl _, ?_⟩
    rw [hf]; simpa using q

theorem p_power : ∀ ds h Q, sp_power ds h Q → t_power (endD Q) (startD N_power ds) h := by
  rintro _ h Q ⟨p, one, many, rfl, ⟨p1, p2⟩, hm, q⟩
  rw [st_power]; unfold t_power
  walk_at "D"
  refine ⟨by omega, ?_⟩
  refine while_mk (fun m σ h' => h' = h ∧ ∃ mn f b : Int, σ = [some (.int p), some (.int one), some (.int mn), some (.int f), some (.int b)] ∧ 0 ≤ mn ∧ m = mn.toNat ∧ 0 ≤ f ∧ f < p ∧ 0 ≤ b ∧ b < p ∧ K03.Eqp p (f * b ^ mn.toNat) (one ^ many.toNat)) many.toNat ?_ ?_
  · refine ⟨rfl, many, 1, _, rfl, hm, rfl, by decide, p1, Int.emod_nonneg _ (by omega), Int.emod_lt_of_pos _ (by omega), ?_⟩
    rw [Int.one_mul]
    exact pow_eqp (.md _ _) _
  · rintro m σ _ ⟨rfl, mn, f, b, rfl, hm0, rfl, f0, f1, b0, b1, hf⟩
    walk_at "D"
    by_cases hz : mn > 0
    · rw [if_pos (by simpa using hz)]
      have st := (pw_step p b mn hz f).trans hf
      refine ⟨by omega, ?_⟩
      by_cases ho : mn % 2 = 1
      · rw [if_pos (by simpa using ho)]
        rw [if_pos ho] at st
        refine ⟨mulC_l (by omega) (by omega), by omega, mulC_l (by omega) (by omega), by omega, by omega, _, ?_, _, _, _, rfl, ?_, rfl, Int.emod_nonneg _ (by omega), Int.emod_lt_of_pos _ (by omega), Int.emod_nonneg _ (by omega), Int.emod_lt_of_pos _ (by omega), st⟩ <;> omega
      · rw [if_neg (by simpa using ho)]
        rw [if_neg ho] at st
        refine ⟨mulC_l (by omega) (by omega), by omega, by omega, _, ?_, _, _, _, rfl, ?_, rfl, f0, f1, Int.emod_nonneg _ (by omega), Int.emod_lt_of_pos _ (by omega), st⟩ <;> omega
    · rw [if_neg (by simpa using hz)]
      obtain rfl : mn = 0 := by omega
      refine ⟨_, .refl _, ?_⟩
      have : one ^ many.toNat % p = f := by
        refine K03.Eqp.lift (.trans (.rfl' (by simp)) hf) f0 f1
      rw [← this]; exact q

theorem p_inverse : ∀ ds h Q, sp_inverse ds h Q → t_inverse (endD Q) (startD N_inverse ds) h := by
  rintro _ h Q ⟨p, one, rfl, ⟨p1, p2⟩, hz, q⟩
  rw [st_inverse]; unfold t_inverse
  walk_at "D"
  refine ⟨by omega, ?_⟩
  rw [if_neg (by simpa using hz)]
  exact ⟨p, one, _, rfl, ⟨p1, p2⟩, by omega, _, .refl _, q⟩

theorem p_basis_at : ∀ ds h Q, sp_basis_at ds h Q → t_basis_at (endD Q) (startD N_basis_at ds) h := by
  rintro _ h Q ⟨p, x, m, k, rfl, ⟨p1, p2⟩, hp, hm, hm2, hk, q⟩
  rw [st_basis_at]; unfold t_basis_at
  walk_at "D"
  refine lc_frng m (h1 := h) (fun o => decide (o ≠ k)) (fun o => .int (o : Nat)) (fun R r => rngN (fun Q q => q) (by omega) r) (by omega) ?_ ?_
  · intro i Qt Qf hi qt qf
    walk_at "D"
    by_cases e : i = k
    · rw [if_neg (by simp [e])]; exact qf (by simp [e])
    · rw [if_pos (by simp; omega)]; exact qt (by simp [e])
  intro a ha
  have ea : (((List.range m).filter fun o => decide (o ≠ k)).map fun o : Nat => D.int (o : Nat)) = IL (Pl.oth m k) := by simp [Pl.oth]
  rw [ea]
  have ol := Pl.oth_len m k
  have md := fun z => mod_rng (show 0 < p by omega) z
  refine lc_of (Pl.oth m k) D.int (fun o => .int ((x - o) % p)) (fun R r => seqV_lst rfl updD_same r) updD_same (by omega) ?_ ?_
  · intro o Q ho q; walk_at "D"; exact ⟨by omega, q⟩
  intro b hb
  refine ⟨p, b, (Pl.oth m k).map fun o => (x - o) % p, rfl, updD_same.trans (by simp), ⟨p1, p2⟩, ?_⟩
  have hb' : b ≠ a := by rintro rfl; rw [updD_same] at hb; cases hb
  generalize hbo : List.map (fun o => D.int ((x - o) % p)) (Pl.oth m k) = bo at *
  have e1 : updD (updD h a (.lst (IL (Pl.oth m k)))) b (.lst bo) a = some (.lst (IL (Pl.oth m k))) := by rw [updD_ne (Ne.symm hb')]; exact updD_same
  walk_at "D"
  refine lc_of (Pl.oth m k) D.int (fun o => .int (((k : Int) - o) % p)) (fun R r => seqV_lst rfl e1 r) e1 (by omega) ?_ ?_
  · intro o Q ho q; walk_at "D"; exact ⟨by omega, q⟩
  intro c hc
  refine ⟨p, c, (Pl.oth m k).map fun o => ((k : Int) - o) % p, rfl, updD_same.trans (by simp), ⟨p1, p2⟩, ?_⟩
  have eS := Pl.px_map p x k m
  have eU := Pl.px_map p k k m
  have rS := Pl.fold_rng p1 ((Pl.oth m k).map fun o => (x - o) % p) 1 (by decide) p1
  generalize ((Pl.oth m k).map fun o => (x - o) % p).foldl (fun f y => f * y % p) 1 = S at *
  generalize ((Pl.oth m k).map fun o => ((k : Int) - o) % p).foldl (fun f y => f * y % p) 1 = U at *
  have ne := Pl.px_ne hp k m hm (by omega)
  refine ⟨p, U, rfl, ⟨p1, p2⟩, fun z => ne (eU.symm.trans (.of_mod (by rw [z]; simp))), ?_⟩
  walk_at "D"
  refine ⟨p, S, U ^ (p - 2).toNat % p, rfl, by omega, mulC_l (by omega) (by omega), h, fun d u e => keeps_new hc _ _ (keeps_new hb _ _ (keeps_new ha _ _ e)), ?_⟩
  have fin : S * (U ^ (p - 2).toNat % p) % p = Pl.px m k x * (Pl.px m k k) ^ (p - 2).toNat % p := K03.Eqp.mod (eS.mul ((K03.Eqp.md p _).trans (pow_eqp eU _)))
  rw [fin]; exact q
theorem p_value_at : ∀ ds h Q, sp_value_at ds h Q → t_value_at (endD Q) (startD N_value_at ds) h := by
  rintro _ h Q ⟨p, x, vs, rfl, ⟨p1, p2⟩, hp, hl, hl2, hr, x0, q⟩
  rw [st_value_at]; unfold t_value_at
  walk_at "D"
  by_cases hx : x < vs.length
  · rw [if_pos (by simpa using hx)]
    have hi : x.toNat < vs.length := by omega
    obtain ⟨i, rfl⟩ : ∃ i : Nat, x = i := ⟨x.toNat, by omega⟩
    refine ix_at (getD_some (by omega)) ⟨h, .refl _, ?_⟩
    have := Pl.lag_at hp vs hl i (by omega)
    have g := hr.get (i := i) (x := vs.getD i 0) (by simp at hi; simp [hi])
    rw [this.symm.lift g.1 g.2] at q
    exact q
  · rw [if_neg (by simpa using hx)]
    refine lc_map (its := enumD 0 (IL vs)) (h1 := h) (stay := fun _ => True) (fun i _ => .int (vs.getD i 0 * (Pl.px vs.length i x * (Pl.px vs.length i i) ^ (p - 2).toNat % p))) (fun R r => enum1 rfl r) trivial (le_size (by simp [enumD_len]; omega)) ?_ ?_
    · intro i d Q hd q
      obtain ⟨y, hy, rfl⟩ := enumD_some hd
      obtain ⟨v, hv, rfl⟩ := IL_get hy
      have hi : i < vs.length := (List.getElem?_eq_some_iff.mp hv).1
      have e : vs.getD i 0 = v := by simp [List.getD, hv]
      rw [e] at q
      walk_at "D"
      have vr := hr.get hv
      refine ⟨p, x, vs.length, i, by simp, ⟨p1, p2⟩, hp, hl, hl2, hi, mulC_l (by omega) (by omega), q⟩
    · intro c hc
      have e : ((enumD 0 (IL vs)).mapIdx fun i _ => D.int (vs.getD i 0 * (Pl.px vs.length i x * (Pl.px vs.length i i) ^ (p - 2).toNat % p))) = IL ((List.range vs.length).map fun i => vs.getD i 0 * (Pl.px vs.length i x * (Pl.px vs.length i i) ^ (p - 2).toNat % p)) := by
        apply List.ext_getElem?
        intro j
        by_cases hj : j < vs.length
        · have : j < (enumD 0 (IL vs)).length := by rw [enumD_len]; simpa using hj
          simp [hj, this]
        · rw [List.getElem?_eq_none (by simp [enumD_len]; omega), List.getElem?_eq_none (by simp; omega)]
      rw [e]
      refine ⟨p, .ref c, _, rfl, items_lst updD_same, by omega, h, sub_new hc, ?_⟩
      have fin : ((List.range vs.length).map fun i => vs.getD i 0 * (Pl.px vs.length i x * (Pl.px vs.length i i) ^ (p - 2).toNat % p)).sum % p = Pl.lag p vs x % p := by
        refine K03.Eqp.mod ?_
        unfold Pl.lag
        generalize List.range vs.length = L
        induction L with
        | nil => exact .refl _ _
        | cons i L ih =>
          simp only [List.map_cons, List.sum_cons]
          refine K03.Eqp.add ?_ ih
          exact ((K03.Eqp.refl p _).mul (K03.Eqp.md p _)).trans (.rfl' (by unfold Pl.lagT; grind))
      rw [fin]; exact q
theorem p_bits_of : ∀ ds h Q, sp_bits_of ds h Q → t_bits_of (endD Q) (startD N_bits_of ds) h := by
  rintro _ h Q ⟨ts, n, rfl, hl, hn, q⟩
  rw [st_bits_of]; unfold t_bits_of
  walk_at "D"
  refine while_mk (fun m σ h' => h' = h ∧ ∃ k : Nat, σ = [some (.tup ts), some (.int k)] ∧ k + m = n) n ⟨rfl, 0, rfl, by omega⟩ ?_
  rintro m σ _ ⟨rfl, k, rfl, hk⟩
  walk_at "D"
  refine ⟨⟨by omega, by omega⟩, ?_⟩
  rw [hl]
  by_cases hm : m = 0
  · subst hm
    obtain rfl : k = n := by omega
    rw [if_neg (by simp)]
    exact ⟨_, .refl _, q⟩
  · have lt : 2 ^ k < 2 ^ n := Nat.pow_lt_pow_right (by omega) (by omega)
    rw [if_pos (by simp; exact_mod_cast lt)]
    exact ⟨m - 1, by omega, k + 1, rfl, by omega⟩

theorem p_weights : ∀ ds h Q, sp_weights ds h Q → t_weights (endD Q) (startD N_weights ds) h := by
  rintro _ h Q ⟨p, xs, rfl, ⟨p1, p2⟩, hr, hl, q⟩
  rw [st_weights]; unfold t_weights
  walk_at "D"
  refine ⟨by decide, fun a0 ha0 => ?_⟩
  refine for_mk (fun R r => seqV_tup rfl r) (fun i σ h' => i ≤ xs.length ∧ ∃ a o1 o2 o3, σ = [some (.int p), some (.tup (IL xs)), some (.ref a), o1, o2, o3] ∧ Sub h h' ∧ h' a = some (.lst (IL ((xs.take i).foldl (K03.wst p) [1]))) ∧ ((xs.take i).foldl (K03.wst p) [1]).length = 2 ^ i ∧ Rng p ((xs.take i).foldl (K03.wst p) [1])) ⟨by omega, a0, none, none, none, rfl, sub_new ha0, updD_same, rfl, ?_⟩ ?_ ?_ ?_
  · intro x hx; simp at hx; omega
  · intros; trivial
  · rintro i d σ h1 hd ⟨hi, a, o1, o2, o3, rfl, hs, ha, hlen, hrg⟩
    obtain ⟨x, hx, rfl⟩ := IL_get hd
    have hi' : i < xs.length := (List.getElem?_eq_some_iff.mp hx).1
    have hxr := hr.get hx
    walk_at "D"
    unfold dLc2
    generalize hws : (xs.take i).foldl (K03.wst p) [1] = ws at *
    have hw8 := pw8 (k := i) (by omega)
    have hw9 := pw8 (k := i + 1) (by omega)
    refine seqV_lst rfl ha ⟨fun j acc h' => h' = h1 ∧ acc = IL (K03.wst p (ws.take j) x), ⟨rfl, rfl⟩, ?_⟩
    rintro j acc h1 ⟨rfl, rfl⟩
    refine ⟨ha, ?_, ?_⟩
    · intro d hd
      obtain ⟨w, hw, rfl⟩ := IL_get hd
      have hj : j < ws.length := (List.getElem?_eq_some_iff.mp hw).1
      have hwr := hrg.get hw
      walk_at "D"
      have big : (K03.wst p (ws.take j) x).length + 2 ≤ 256 := by
        rw [K03.wst_len, List.length_take, Nat.min_eq_left (by omega)]
        rw [Nat.pow_succ] at hw9
        omega
      refine seq_tup (fun Q q => ?_) (ds := IL [w * (1 - x) % p, w * x % p]) ⟨fun k acc h' => h' = h1 ∧ acc = IL (K03.wst p (ws.take j) x) ++ (IL [w * (1 - x) % p, w * x % p]).take k, ⟨rfl, by simp⟩, ?_⟩
      · walk_at "D"
        exact ⟨mulC_l (by omega) (by omega), by omega, mulC_l (by omega) (by omega), by omega, le_size (by simp), q⟩
      · rintro k acc _ ⟨rfl, rfl⟩
        refine ⟨trivial, ?_, ?_⟩
        · intro d hd
          walk_at "D"
          refine ⟨lt_size ?_, ?_⟩
          · simp; omega
          · rw [take_next hd, List.append_assoc]
        · rintro rfl
          refine ⟨rfl, ?_⟩
          rw [take_next hw]
          simp [K03.wst]
    · rintro rfl b hb
      refine ⟨by omega, b, _, _, _, rfl, fun c o e => keeps_new hb _ _ (hs _ _ e), ?_⟩
      have ee : (xs.take (i + 1)).foldl (K03.wst p) [1] = K03.wst p ws x := by rw [take_next hx, List.foldl_append, hws]; rfl
      rw [ee]
      refine ⟨by rw [updD_same]; simp, by rw [K03.wst_len, hlen, Nat.pow_succ]; omega, ?_⟩
      intro y hy
      simp only [K03.wst, List.mem_flatMap, List.mem_cons, List.not_mem_nil, or_false] at hy
      obtain ⟨w, _, rfl | rfl⟩ := hy
      · exact ⟨Int.emod_nonneg _ (by omega), Int.emod_lt_of_pos _ (by omega)⟩
      · exact ⟨Int.emod_nonneg _ (by omega), Int.emod_lt_of_pos _ (by omega)⟩
  · rintro σ h1 ⟨hi, a, o1, o2, o3, rfl, hs, ha, hlen, hrg⟩
    walk_at "D"
    refine tupleOf_ref ha ⟨h, hs, ?_⟩
    rw [show (IL xs).length = xs.length by simp, List.take_length, K03.W_one]
    exact q

theorem p_extension : ∀ ds h Q, sp_extension ds h Q → t_extension (endD Q) (startD N_extension ds) h := by
  rintro _ h Q ⟨p, ts, xs, rfl, ⟨p1, p2⟩, hr, hl, hl2, hrt, q⟩
  rw [st_extension]; unfold t_extension
  walk_at "D"
  have wr := K03.W_rng (show 0 < p by omega) xs 1 (by decide) p1
  refine lc_map (its := zipD (IL ts) (IL (K03.W p 1 xs))) (h1 := h) (stay := fun _ => True) (fun _ d => mulPr d) (fun R r => ?_) trivial ?_ ?_ ?_
  · refine zip_mk (fun Q q => ?_) r
    walk_at "D"
    exact ⟨p, xs, rfl, ⟨p1, p2⟩, hr, hl, q⟩
  · rw [zipD_len]
    exact le_size (by simp; omega)
  · intro i d Q hd q
    obtain ⟨x, y, hx, hy, rfl⟩ := zipD_some hd
    obtain ⟨x, hx', rfl⟩ := IL_get hx
    obtain ⟨y, hy', rfl⟩ := IL_get hy
    have xr := hrt.get hx'
    walk_at "D"
    exact ⟨mulC_l (by omega) (by omega), q⟩
  · intro a ha
    rw [dot_map]
    exact ⟨p, .ref a, _, rfl, items_lst updD_same, by omega, h, sub_new ha, q⟩

theorem p_fixed : ∀ ds h Q, sp_fixed ds h Q → t_fixed (endD Q) (startD N_fixed ds) h := by
  rintro _ h Q ⟨p, x, ts, n, rfl, ⟨p1, p2⟩, hr, x0, x1, hl, hn, q⟩
  rw [st_fixed]; unfold t_fixed
  walk_at "D"
  have hlen : (IL ts).length = 2 * n := by simp [hl]
  have hd : (((IL ts).length : Int) / 2) = (n : Int) := by rw [hlen]; omega
  rw [hd]
  refine ⟨by decide, ?_⟩
  refine lc_map (its := zipD (IL (ts.take n)) (IL (ts.drop n))) (h1 := h) (stay := fun _ => True) (fun _ d => fxPr p x d) (fun R r => ?_) trivial ?_ ?_ ?_
  · refine zip_mk (fun Q q => ?_) r
    walk_at "D"
    rw [cut_lo _ _ (by omega), cut_hi _ _ (by omega)]
    simpa using q
  · rw [zipD_len]
    exact le_size (by simp; omega)
  · intro i d Q hd q
    obtain ⟨a, b, ha, hb, rfl⟩ := zipD_some hd
    obtain ⟨a, ha, rfl⟩ := IL_get ha
    obtain ⟨b, hb, rfl⟩ := IL_get hb
    walk_at "D"
    exact ⟨mulC_l (by omega) (by omega), by omega, q⟩
  · rw [fxPr_map]
    exact ⟨h, .refl _, q⟩

theorem p__law_bag : ∀ ds h Q, sp__law_bag ds h Q → t__law_bag (endD Q) (startD N__law_bag ds) h := by
  rintro _ h Q ⟨ns, rfl, hl, q⟩
  rw [st__law_bag]; unfold t__law_bag
  walk_at "D"
  unfold dLc
  simp only [dSeqI]
  walk_at "D"
  rw [rSl_rol]
  intro a ha
  simp only [srcD, updD_same]
  rw [cut_whole (xs := IL ns) (lo := none) (hi := some 63) (by simp [HT.sIx]; omega)]
  have hst : updD h a (.lst (IL ns)) a = some (.lst (IL ns)) := updD_same
  refine lc_map (ti := fun _ _ R => R (IL ns) (fun h' => h' a = some (.lst (IL ns))) (updD h a (.lst (IL ns)))) (g := dgName 1) (te := dCB rAbs (dCons (dVar 1) dNil)) (vs := [1]) (σ := [some (D.rol (IL ns)), none]) (h := h) (fun _ d => match d with
      | .int i => .int (if i < 0 then -i else i)
      | _ => .non) (fun R r => r) hst (le_size (by simp; omega)) ?_ ?_
  · intro i d Q hd q
    obtain ⟨y, _, rfl⟩ := IL_get hd
    walk_at "D"
    exact q
  · intro c hc
    refine ⟨by simp [sizeLine], fun b hb => ?_⟩
    refine ⟨_, .refl _, q _ _ ⟨0, 1234567891, 0, c, ns.map fun i => if i < 0 then -i else i, updD_same, ?_, by decide, by decide, by decide, by decide, by simpa using hl, ?_⟩⟩
    · rw [updD_ne (new_ne hb updD_same), updD_same]
      rw [mapIdx_const]; simp
    · intro x hx
      simp only [List.mem_map] at hx
      obtain ⟨y, _, rfl⟩ := hx
      split <;> omega

theorem p__law_take : ∀ ds h Q, sp__law_take ds h Q → t__law_take (endD Q) (startD N__law_take ds) h := by
  rintro _ h Q ⟨b, many, rfl, ⟨b0, b1, b2, c, cs, hg⟩, m1, m2, q⟩
  rw [st__law_take]; unfold t__law_take
  have hne := hg.ne
  obtain ⟨gb, gc, p0, p1, p1', p2, pl, pc⟩ := hg
  refine seq_inv (fun σ h2 => ∃ (c0 c1 c2 : Int) (o2 o3 : Option D), σ = [some (.ref b), some (.int many), o2, o3, none, none, none] ∧ Sub (updD h b (.lst [.int c0, .int c1, .int c2, .ref c])) h2 ∧ BagAt h2 b c0 c1 c2 c cs) (fun N hN => ?_) ?_
  · walk_at "D"
    refine ix_ref gb (by decide) rfl ?_
    walk_at "D"
    by_cases hz : b0 = 0
    · subst hz
      rw [if_pos (by decide)]
      refine ix_ref gb (by decide) rfl (ix_ref gb (by decide) rfl (sl_ref gc fun a1 ha1 => ⟨by decide, fun a2 ha2 => ?_⟩))
      have s1 := sub_new (o := .lst (cutG (IL cs) (some b2) none)) ha1
      have s2 := sub_new (o := .lst [.int 0]) ha2
      refine cat_ref (s2 _ _ updD_same) updD_same ?_ fun a3 ha3 => ?_
      · rw [cut_from _ _ p2]
        exact le_size (by simp; omega)
      have s3 := sub_new (o := .lst (cutG (IL cs) (some b2) none ++ [D.int 0])) ha3
      obtain ⟨cell, hc0, hcell⟩ : ∃ cell : Int, 0 ≤ cell ∧ (cutG (IL cs) (some b2) none ++ [D.int 0])[(0 : Int).toNat]? = some (.int cell) := by
        rw [cut_from _ _ p2, ← List.map_drop]
        cases hd : cs.drop b2.toNat with
        | nil => exact ⟨0, by decide, rfl⟩
        | cons x r => exact ⟨x, pc x (List.mem_of_mem_drop (hd ▸ List.mem_cons_self)), rfl⟩
      refine ix_ref updD_same (by decide) hcell ?_
      have s := (s1.trans s2).trans s3
      generalize updD (updD (updD h a1 _) a2 _) a3 _ = h3 at s
      have gb3 := s _ _ gb
      have gc3 := s _ _ gc
      walk_at "D"
      refine get_ref gb3 (by decide) rfl ?_
      walk_at "D"
      refine set_ref gb3 (by decide) (by show 2 < 4; decide) ?_
      rw [set_bag2]
      have gb4 := updD_same (h := h3) (a := b) (o := .lst [.int 0, .int b1, .int (b2 + 1), .ref c])
      have gc4 : updD h3 b (.lst [.int 0, .int b1, .int (b2 + 1), .ref c]) c = _ := (updD_ne hne).trans gc3
      generalize hh4 : updD h3 b (.lst [.int 0, .int b1, .int (b2 + 1), .ref c]) = h4 at gb4 gc4 ⊢
      have fin : ∀ (h5 : DH) (c0 : Int), 0 ≤ c0 → h5 b = some (.lst [.int c0, .int b1, .int (b2 + 1), .ref c]) → h5 c = some (.lst (IL cs)) → (∀ a, a ≠ b → h5 a = h4 a) → ∀ (o3 : Option D) (x : Int), 0 ≤ x → x < 2147483647 → N [some (.ref b), some (.int many), some (.int cell), o3, none, none, none] (updD h5 b (.lst [.int c0, .int x, .int (b2 + 1), .ref c])) := by
        intro h5 c0 hc gb5 gc5 same o3 x x0 x1
        refine hN _ _ ⟨c0, x, b2 + 1, some (.int cell), o3, rfl, ?_, updD_same, (updD_ne hne).trans gc5, hc, x0, x1, by omega, pl, pc⟩
        intro a o e
        by_cases ha : a = b
        · subst ha; rw [updD_same] at e ⊢; exact e
        · rw [updD_ne ha] at e ⊢
          rw [same a ha, ← hh4, updD_ne ha]
          exact s a o e
      refine ⟨by decide, ?_⟩
      by_cases hbig : (10 : Int) ^ (18 : Int).toNat ≤ cell
      · rw [if_pos (by simpa using hbig)]
        refine set_ref gb4 (by decide) (by show 0 < 4; decide) ?_
        rw [set_bag0]
        have gb5 := updD_same (h := h4) (a := b) (o := .lst [.int cell, .int b1, .int (b2 + 1), .ref c])
        refine ix_ref gb5 (by decide) rfl ?_
        walk_at "D"
        refine ⟨mulC_r (by decide) (by decide), by decide, ix_ref gb5 (by decide) rfl ?_⟩
        walk_at "D"
        refine ⟨mulC_l (by decide) (by decide), by decide, set_ref gb5 (by decide) (by show 1 < 4; decide) ?_⟩
        rw [set_bag1]
        exact fin _ cell hc0 gb5 ((updD_ne hne).trans gc4) (fun a ha => updD_ne ha) _ _ (Int.emod_nonneg _ (by decide)) (Int.emod_lt_of_pos _ (by decide))
      · rw [if_neg (by simpa using hbig)]
        refine ix_ref gb4 (by decide) rfl ?_
        walk_at "D"
        refine ⟨mulC_r (by decide) (by decide), by decide, ix_ref gb4 (by decide) rfl ?_⟩
        walk_at "D"
        refine ⟨mulC_l (by decide) (by decide), by decide, set_ref gb4 (by decide) (by show 1 < 4; decide) ?_⟩
        rw [set_bag1]
        exact fin _ 0 (by decide) gb4 gc4 (fun a ha => rfl) _ _ (Int.emod_nonneg _ (by decide)) (Int.emod_lt_of_pos _ (by decide))
    · rw [if_neg (by simpa using hz)]
      refine hN _ _ ⟨b0, b1, b2, none, none, rfl, ?_, gb, gc, p0, p1, p1', p2, pl, pc⟩
      intro a o e
      by_cases ha : a = b
      · subst ha; rw [updD_same] at e; rw [gb]; exact e
      · rwa [updD_ne ha] at e
  · rintro σ h2 ⟨c0, c1, c2, o2, o3, rfl, hs, gb2, gc2, g0, g1, g1', g2, _, gcs⟩
    walk_at "D"
    refine ix_ref gb2 (by decide) rfl ?_
    walk_at "D"
    by_cases hp : c0 > 0
    · rw [if_pos (by simpa using hp)]
      refine ix_ref gb2 (by decide) rfl ?_
      walk_at "D"
      refine ⟨by omega, ix_ref gb2 (by decide) rfl ?_⟩
      walk_at "D"
      refine ⟨⟨by omega, by omega⟩, ?_⟩
      refine set_ref gb2 (by decide) (by show 0 < 4; decide) ?_
      rw [set_bag0]
      refine ⟨updD h b (.lst [.int (c0 / many), .int c1, .int c2, .ref c]), ?_, ?_⟩
      · intro a o e
        by_cases ha : a = b
        · subst ha; rw [updD_same] at e ⊢; exact e
        · rw [updD_ne ha] at e ⊢
          exact hs a o (by rw [updD_ne ha]; exact e)
      · refine q _ _ (Int.emod_nonneg _ (by omega)) (Int.emod_lt_of_pos _ (by omega)) ⟨c0 / many, c1, c2, c, cs, updD_same, (updD_ne hne).trans gc, Int.ediv_nonneg g0 (by omega), g1, g1', g2, pl, gcs⟩ (bagC_same gb ⟨c0 / many, c1, c2, cs, updD_same, (updD_ne hne).trans gc, Int.ediv_nonneg g0 (by omega), g1, g1', g2, pl, gcs⟩)
    · rw [if_neg (by simpa using hp)]
      refine ix_ref gb2 (by decide) rfl ?_
      walk_at "D"
      refine ⟨mulC_r (by decide) (by decide), by decide, mulC_l ?_ ?_, by decide, mulC_r (by decide) (by decide), by decide, ⟨by decide, by decide⟩, by omega, ?_⟩
      · omega
      · omega
      refine ⟨_, hs, q _ _ (Int.emod_nonneg _ (by omega)) (Int.emod_lt_of_pos _ (by omega)) ⟨c0, c1, c2, c, cs, updD_same, (updD_ne hne).trans gc, g0, g1, g1', g2, pl, gcs⟩ (bagC_same gb ⟨c0, c1, c2, cs, updD_same, (updD_ne hne).trans gc, g0, g1, g1', g2, pl, gcs⟩)⟩

theorem p__law_alike : ∀ ds h Q, sp__law_alike ds h Q → t__law_alike (endD Q) (startD N__law_alike ds) h := by
  rintro _ h Q ⟨x, y, n, rfl, hxy, hn, q⟩
  rw [st__law_alike]; unfold t__law_alike
  walk_at "D"
  refine ⟨le_size (by decide), le_size (by decide), fun a ha => ?_⟩
  refine while_mk (fun m σ h' => ∃ (k : Nat) (o1 o2 : Option D) (ps : List D), σ = [some x, some y, some (.ref a), some (.int k), o1, o2] ∧ Sub h h' ∧ h' a = some (.lst ps) ∧ k ≤ ps.length ∧ Prs h (ps.drop k) m ∧ k + m ≤ n) n ?_ ?_
  · exact ⟨0, none, none, _, rfl, sub_new ha, updD_same, by simp, by simpa using Prs.cons hxy .nil, by omega⟩
  · rintro m σ h1 ⟨k, o1, o2, ps, rfl, hs, hp, hk, hP, hkm⟩
    walk_at "D"
    refine len_ref hp ?_
    walk_at "D"
    by_cases hlt : k < ps.length
    · rw [if_pos (by simpa using hlt)]
      have hd : ps.drop k = ps[k] :: ps.drop (k + 1) := List.drop_eq_getElem_cons hlt
      rw [hd] at hP
      obtain ⟨u, v, m1, m2, e, huv, hP2, rfl⟩ := hP.head
      refine ix_ref hp (by omega) (d := .tup [u, v]) (by rw [← e]; simpa using List.getElem?_eq_getElem hlt) ?_
      walk_at "D"
      have len2 := hP2.len
      rw [List.length_drop] at len2
      have kk : ((k : Int) + 1) = ((k + 1 : Nat) : Int) := rfl
      have go : ∀ o1 o2 : Option D, 1 ≤ m1 → ∃ m' : Nat, m' < m1 + m2 ∧ ∃ (k' : Nat) (o1' o2' : Option D) (ps' : List D), [some x, some y, some (.ref a), some (.int ((k : Int) + 1)), o1, o2] = [some x, some y, some (.ref a), some (.int k'), o1', o2'] ∧ Sub h h1 ∧ h1 a = some (.lst ps') ∧ k' ≤ ps'.length ∧ Prs h (ps'.drop k') m' ∧ k' + m' ≤ n := fun o1 o2 l => ⟨m2, by omega, k + 1, o1, o2, ps, by rw [kk], hs, hp, by omega, hP2, by omega⟩
      have big : ∀ (xs ys : List D) (n1 : Nat) (o1 o2 : Option D), m1 = n1 + 1 → Alks h xs ys n1 → ∀ p, h1 p = none → rExtendD (.ref a) [.ref p] (updD h1 p (.lst (zipD xs ys))) fun _ h2 => ∃ m' : Nat, m' < m1 + m2 ∧ ∃ (k' : Nat) (o1' o2' : Option D) (ps' : List D), [some x, some y, some (.ref a), some (.int ((k : Int) + 1)), o1, o2] = [some x, some y, some (.ref a), some (.int k'), o1', o2'] ∧ Sub h h2 ∧ h2 a = some (.lst ps') ∧ k' ≤ ps'.length ∧ Prs h (ps'.drop k') m' ∧ k' + m' ≤ n := by
        intro xs ys n1 o1 o2 hm1 hq p hnp
        have hl := hq.lens
        have zl : (zipD xs ys).length ≤ n1 := by rw [zipD_len]; omega
        have sn := sub_new (o := .lst (zipD xs ys)) hnp
        refine extend_ref (sn _ _ hp) updD_same (le_size (by omega)) ?_
        refine ⟨m2 + n1, by omega, k + 1, o1, o2, ps ++ zipD xs ys, by rw [kk], ?_, updD_same, by simp; omega, ?_, by omega⟩
        · intro b o e
          have : b ≠ a := new_ne ha e
          rw [updD_ne this]
          exact sn _ _ (hs _ _ e)
        · rw [List.drop_append_of_le_length (by omega)]
          exact hP2.append (Prs.zip hq)
      cases huv with
      | int i =>
        simp only [isi_int_bool, isi_int_str, rNeU_bl, bne_self_eq_false, Bool.false_eq_true, ↓reduceIte, kind_int, isit_int_tl, rNeU_int, beq_self_eq_true, Bool.not_true]
        exact go _ _ (by omega)
      | bl i =>
        simp only [isi_bl_bool, isi_bl_str, rNeU_bl, bne_self_eq_false, Bool.false_eq_true, ↓reduceIte, kind_bl, isit_bl_tl, rNeU_int, beq_self_eq_true, Bool.not_true]
        exact go _ _ (by omega)
      | non =>
        simp only [isi_non_bool, isi_non_str, rNeU_bl, bne_self_eq_false, Bool.false_eq_true, ↓reduceIte, kind_non, isit_non_tl, rNeU_non, beq_self_eq_true, Bool.not_true]
        exact go _ _ (by omega)
      | str i ki =>
        simp only [isi_str_bool, isi_str_str, rNeU_bl, bne_self_eq_false, Bool.false_eq_true, ↓reduceIte, kind_str, isit_str_tl, rNeU_str _ _ ki ki, beq_self_eq_true, Bool.not_true]
        exact go _ _ (by omega)
      | tup q =>
        have := q.lens.1
        simp only [isi_tup_bool, isi_tup_str, isi_tup_tuple, rNeU_bl, bne_self_eq_false, Bool.false_eq_true, ↓reduceIte, kind_tup, isit_tup_tl, rNeU_int, beq_self_eq_true, Bool.not_true, rLen_tup, this, items_tup]
        exact ⟨isLst_ref hp, big _ _ _ _ _ rfl q⟩
      | ref e1 e2 q =>
        have := q.lens.1
        replace e1 := hs _ _ e1
        replace e2 := hs _ _ e2
        simp only [isi_ref_bool e1, isi_ref_bool e2, isi_ref_str e1, isi_ref_str e2, isi_ref_tuple e1, isi_ref_tuple e2, rNeU_bl, bne_self_eq_false, Bool.false_eq_true, ↓reduceIte, kind_ref e1, kind_ref e2, isit_lst_tl, rNeU_int, beq_self_eq_true, Bool.not_true, rLen_ref e1, rLen_ref e2, this, items_lst e1, items_lst e2]
        exact ⟨isLst_ref hp, big _ _ _ _ _ rfl q⟩
    · rw [if_neg (by simpa using hlt)]
      exact ⟨h, hs, q⟩

theorem p__law_inverse : ∀ ds h Q, sp__law_inverse ds h Q → t__law_inverse (endD Q) (startD N__law_inverse ds) h := by
  rintro _ h Q ⟨p, one, rfl, ⟨p1, p2⟩, q⟩
  rw [st__law_inverse]; unfold t__law_inverse
  walk_at "D"
  refine ⟨by omega, ?_⟩
  refine while_mk (fun m σ h' => h' = h ∧ ∃ mn f b : Int, σ = [some (.int p), some (.int one), some (.int f), some (.int b), some (.int mn)] ∧ 0 ≤ mn ∧ m = mn.toNat ∧ 0 ≤ f ∧ f < p ∧ 0 ≤ b ∧ b < p ∧ K03.Eqp p (f * b ^ mn.toNat) (one ^ (p - 2).toNat)) (p - 2).toNat ?_ ?_
  · refine ⟨rfl, p - 2, 1, _, rfl, by omega, rfl, by decide, p1, Int.emod_nonneg _ (by omega), Int.emod_lt_of_pos _ (by omega), ?_⟩
    rw [Int.one_mul]
    exact pow_eqp (.md _ _) _
  · rintro m σ _ ⟨rfl, mn, f, b, rfl, hm0, rfl, f0, f1, b0, b1, hf⟩
    walk_at "D"
    by_cases hz : mn > 0
    · rw [if_pos (by simpa using hz)]
      have st := (pw_step p b mn hz f).trans hf
      refine ⟨by omega, ?_⟩
      by_cases ho : mn % 2 = 1
      · rw [if_pos (by simpa using ho)]
        rw [if_pos ho] at st
        refine ⟨mulC_l (by omega) (by omega), by omega, mulC_l (by omega) (by omega), by omega, by omega, _, ?_, _, _, _, rfl, ?_, rfl, Int.emod_nonneg _ (by omega), Int.emod_lt_of_pos _ (by omega), Int.emod_nonneg _ (by omega), Int.emod_lt_of_pos _ (by omega), st⟩ <;> omega
      · rw [if_neg (by simpa using ho)]
        rw [if_neg ho] at st
        refine ⟨mulC_l (by omega) (by omega), by omega, by omega, _, ?_, _, _, _, rfl, ?_, rfl, f0, f1, Int.emod_nonneg _ (by omega), Int.emod_lt_of_pos _ (by omega), st⟩ <;> omega
    · rw [if_neg (by simpa using hz)]
      obtain rfl : mn = 0 := by omega
      refine ⟨_, .refl _, ?_⟩
      have : one ^ (p - 2).toNat % p = f := by
        refine K03.Eqp.lift (.trans (.rfl' (by simp)) hf) f0 f1
      rw [← this]; exact q

theorem p__law_bits : ∀ ds h Q, sp__law_bits ds h Q → t__law_bits (endD Q) (startD N__law_bits ds) h := by
  rintro _ h Q ⟨i, n, rfl, hn, q⟩
  rw [st__law_bits]; unfold t__law_bits
  walk_at "D"
  refine lc_map (its := rngD 0 n) (h1 := h) (stay := fun _ => True) (fun j _ => .int (((i / 2 ^ (n - 1 - j) % 2 : Nat)) : Int)) (fun R r => rng1 (n := (n : Int)) (h1 := h) (fun Q q => q) (by omega) (by omega) (by simpa using r)) trivial (le_size (by rw [rngD_len]; omega)) ?_ ?_
  · intro j d Q hd q
    obtain ⟨hj, rfl⟩ := rng_some hd
    walk_at "D"
    rw [Int.zero_add]
    refine ⟨by omega, ?_⟩
    rw [shr_bit i n j hj]
    exact ⟨by decide, q⟩
  · intro a ha
    refine ⟨_, .refl _, ?_⟩
    have e : (rngD 0 n).mapIdx (fun j _ => D.int (((i / 2 ^ (n - 1 - j) % 2 : Nat)) : Int)) = IL (K03.lbits i n) := by
      apply List.ext_getElem?
      intro j
      by_cases hj : j < n
      · simp [rngD_get hj, lbits_get hj]
      · rw [List.getElem?_eq_none (by simp [rngD_len]; omega), List.getElem?_eq_none (by simp [K03.lbits_len]; omega)]
    rw [e]
    exact q a ha

theorem p__law_weight : ∀ ds h Q, sp__law_weight ds h Q → t__law_weight (endD Q) (startD N__law_weight ds) h := by
  rintro _ h Q ⟨p, a, bs, xs, rfl, ha, ⟨p1, p2⟩, hr, q⟩
  rw [st__law_weight]; unfold t__law_weight
  walk_at "D"
  refine for_mk (fun R r => zip_lt (ds := IL bs) (es := IL xs) rfl ha rfl r) (fun k σ h' => h' = h ∧ ∃ o1 o2 f, σ = [some (.int p), some (.ref a), some (.tup (IL xs)), some (.int f), o1, o2] ∧ 0 ≤ f ∧ f < p ∧ f = K03.lw p 1 (bs.take k) (xs.take k)) ⟨rfl, none, none, 1, rfl, by decide, p1, by simp [K03.lw]⟩ (fun _ _ _ q => by rw [q.1]; exact ha) ?_ ?_
  · rintro k d σ _ hd ⟨rfl, o1, o2, f, rfl, f0, f1, hf⟩
    obtain ⟨x, y, hx, hy, rfl⟩ := zipD_some hd
    obtain ⟨x, hx', rfl⟩ := IL_get hx
    obtain ⟨y, hy', rfl⟩ := IL_get hy
    have yr := hr.get hy'
    have lt := lw_take p bs xs 1 k x y hx' hy'
    rw [← hf] at lt
    have mr := mod_rng (show 0 < p by omega)
    walk_at "D"
    by_cases hb : x = 1
    · rw [if_pos (by simpa using hb)]
      rw [if_pos hb] at lt
      exact ⟨mulC_l (by omega) (by omega), by omega, _, _, _, rfl, (mr _).1, (mr _).2, lt.symm⟩
    · rw [if_neg (by simpa using hb)]
      rw [if_neg hb] at lt
      exact ⟨mulC_l (by omega) (by omega), by omega, _, _, _, rfl, (mr _).1, (mr _).2, lt.symm⟩
  · rintro σ _ ⟨rfl, o1, o2, f, rfl, f0, f1, hf⟩
    walk_at "D"
    refine ⟨_, .refl _, ?_⟩
    rw [zipD_len, show (IL xs).length = xs.length by simp, show (IL bs).length = bs.length by simp, lw_min] at hf
    rw [hf]; exact q

theorem p__law_extension : ∀ ds h Q, sp__law_extension ds h Q → t__law_extension (endD Q) (startD N__law_extension ds) h := by
  rintro _ h Q ⟨p, ts, xs, rfl, ⟨p1, p2⟩, hr, hl, hl8, hrt, q⟩
  rw [st__law_extension]; unfold t__law_extension
  walk_at "D"
  have h8 := pw8 hl8
  refine lc_mk (its := enumD 0 (IL ts)) (h1 := h) (stay := fun _ => True) (fun R r => enum1 rfl r) (fun i acc h' => Sub h h' ∧ acc = IL (List.zipWith (fun a b => a * b) (ts.take i) ((K03.W p 1 xs).take i))) ⟨.refl _, by simp⟩ (fun _ _ _ _ => trivial) ?_ ?_
  · rintro i d acc h1 hd ⟨hs, rfl⟩
    obtain ⟨x, hx', rfl⟩ := enumD_some hd
    obtain ⟨x, hx, rfl⟩ := IL_get hx'
    have hi : i < ts.length := (List.getElem?_eq_some_iff.mp hx).1
    have xr := hrt.get hx
    walk_at "D"
    rw [show ((IL xs).length : Int) = (xs.length : Int) by simp]
    refine ⟨i, xs.length, rfl, by omega, fun a ha => ?_⟩
    refine ⟨p, a, _, xs, rfl, updD_same, ⟨p1, p2⟩, hr, ?_⟩
    refine ⟨mulC_l (by omega) (by omega), lt_size (by simp; omega), hs.new ha, ?_⟩
    have hw := K03.W_get p xs 1 i (by omega)
    rw [take_next hx, take_next hw, List.zipWith_append (by simp [K03.W_len]; omega)]
    simp
  · rintro acc h1 ⟨hs, rfl⟩
    rw [enumD_len]
    have : intsD (IL (List.zipWith (fun a b => a * b) (ts.take (IL ts).length) ((K03.W p 1 xs).take (IL ts).length))) = some (List.zipWith (fun a b => a * b) ts (K03.W p 1 xs)) := by
      rw [show (IL ts).length = ts.length by simp, List.take_length, List.take_of_length_le (by rw [K03.W_len, hl]; exact Nat.le_refl _)]
      exact intsD_of _
    rw [this]
    walk_at "D"
    exact ⟨by omega, h, hs, q⟩

theorem p__law_size : ∀ ds h Q, sp__law_size ds h Q → t__law_size (endD Q) (startD N__law_size ds) h := by
  rintro _ h Q ⟨ts, n, rfl, hl, q⟩
  rw [st__law_size]; unfold t__law_size
  walk_at "D"
  refine ⟨le_size (by decide), ?_⟩
  refine while_mk (fun m σ h' => h' = h ∧ ∃ k : Nat, σ = [some (.tup ts), some (.int k), some (.int ((2 ^ k : Nat) : Int))] ∧ k + m = n) n ⟨rfl, 0, rfl, by omega⟩ ?_
  rintro m σ _ ⟨rfl, k, rfl, hk⟩
  walk_at "D"
  rw [hl]
  by_cases hm : m = 0
  · subst hm
    obtain rfl : k = n := by omega
    rw [if_neg (by simp)]
    exact ⟨_, .refl _, q⟩
  · have lt : 2 ^ k < 2 ^ n := Nat.pow_lt_pow_right (by omega) (by omega)
    rw [if_pos (by simpa using (by exact_mod_cast lt : ((2 ^ k : Nat) : Int) < ((2 ^ n : Nat) : Int)))]
    refine ⟨mulC_r (by decide) (by decide), m - 1, by omega, k + 1, ?_, by omega⟩
    rw [Nat.pow_succ]
    rfl

theorem p__law_all_bits : ∀ ds h Q, sp__law_all_bits ds h Q → t__law_all_bits (endD Q) (startD N__law_all_bits ds) h := by
  rintro _ h Q ⟨k, rfl, hk, q⟩
  rw [st__law_all_bits]; unfold t__law_all_bits
  walk_at "D"
  refine ⟨le_size (by decide), le_size (by decide), fun a0 ha0 => ?_⟩
  refine for_mk (its := rngD 0 k) (stay := fun _ => True) (h1 := updD h a0 (.lst [.tup []])) (fun R r => rngN (fun Q q => by walk_at "D"; exact q) (by omega) r) (fun i σ h' => ∃ (a : Addr) (o2 o3 o4 : Option D), i ≤ k ∧ σ = [some (.int k), some (.ref a), o2, o3, o4] ∧ Sub h h' ∧ h a = none ∧ h' a = some (.lst ((allBits i).map fun bs => .tup (IL bs)))) ⟨a0, none, none, none, by omega, rfl, sub_new ha0, ha0, updD_same⟩ (fun _ _ _ _ => trivial) ?_ ?_
  · rintro i d σ h1 hd ⟨a, o2, o3, o4, hik, rfl, hs, hfa, ha⟩
    obtain ⟨hi, rfl⟩ := rng_some hd
    walk_at "D"
    refine ⟨le_size (by decide), fun b hb => ?_⟩
    have ha' := keeps_new (o := .lst []) hb _ _ ha
    have l8 : (allBits i).length ≤ 4 := by rw [allBits_len]; exact Nat.le_trans (Nat.pow_le_pow_right (by decide) (show i ≤ 2 by omega)) (by decide)
    refine for_mk (fun R r => seqV_lst rfl ha' r) (fun j σ h' => ∃ o4, σ = [some (.int k), some (.ref a), some (.int (0 + (i : Int))), some (.ref b), o4] ∧ Sub h h' ∧ h' a = some (.lst ((allBits i).map fun bs => .tup (IL bs))) ∧ h' b = some (.lst ((((allBits i).take j).flatMap fun b => [b ++ [0], b ++ [1]]).map fun bs => .tup (IL bs)))) ⟨o4, rfl, hs.new hb, ha', updD_same⟩ (fun _ _ _ q => by obtain ⟨_, _, _, q, _⟩ := q; exact q) ?_ ?_
    · rintro j d σ h2 hd ⟨o4, rfl, hs2, ha2, hb2⟩
      simp only [List.getElem?_map, Option.map_eq_some_iff] at hd
      obtain ⟨bs, hbs, rfl⟩ := hd
      have hj : j < (allBits i).length := (List.getElem?_eq_some_iff.mp hbs).1
      walk_at "D"
      have bl := (allBits_mem i bs (List.mem_of_getElem? hbs)).1
      have nba : b ≠ a := by rintro rfl; rw [ha] at hb; cases hb
      have hfb : h b = none := by
        cases e : h b with
        | none => rfl
        | some o => rw [hs _ _ e] at hb; cases hb
      have fl : ((((allBits i).take j).flatMap fun b => [b ++ [0], b ++ [1]])).length ≤ 8 := by
        simp only [List.length_flatMap, List.length_cons, List.length_nil, List.map_const', List.sum_replicate_nat, List.length_take]
        omega
      refine ⟨isLst_ref hb2, le_size (by decide), le_size (by simp; omega), le_size (by decide), le_size (by simp; omega), le_size (by decide), fun p hp => ?_⟩
      refine extend_ref (keeps_new hp _ _ hb2) updD_same (le_size ?_) ?_
      · rw [List.length_map]; simp only [List.length_cons, List.length_nil]; omega
      refine ⟨_, rfl, fun c o e => ?_, ?_, ?_⟩
      · rw [updD_ne (by rintro rfl; rw [hfb] at e; cases e)]
        exact keeps_new hp _ _ (hs2 _ _ e)
      · rw [updD_ne (Ne.symm nba)]
        exact keeps_new hp _ _ ha2
      · rw [updD_same, take_next hbs]
        simp
    · rintro σ h2 ⟨o4, rfl, hs2, ha2, hb2⟩
      walk_at "D"
      have hfb : h b = none := by
        cases e : h b with
        | none => rfl
        | some o => rw [hs _ _ e] at hb; cases hb
      refine ⟨b, _, _, _, by omega, rfl, hs2, hfb, ?_⟩
      rw [hb2]
      simp [allBits]
  · rintro σ h1 ⟨a, o2, o3, o4, hik, rfl, hs, hfa, ha⟩
    walk_at "D"
    refine ⟨updD h a (.lst ((allBits k).map fun bs => .tup (IL bs))), ?_, q a hfa⟩
    intro c o e
    by_cases hc : c = a
    · subst hc; rw [updD_same] at e; cases e; rw [ha, rngD_len]
    · rw [updD_ne hc] at e; exact hs _ _ e


theorem fixT_nil (p : Int) (ts : List (List Int)) : fixT p ts [] = ts := by simp [fixT, ffx]
theorem fixT_tabs {p : Int} (hp : 0 < p) {w : Wd} {ts : List (List Int)} {ch : List Int} {k : Nat} (h : Tabs p w (2 ^ (ch.length + k)) ts) : Tabs p w (2 ^ k) (fixT p ts ch) := by
  refine ⟨by simp [fixT, h.1], fun t ht => ?_⟩
  obtain ⟨u, hu, rfl⟩ := List.mem_map.mp ht
  exact ⟨ffx_len p ch u k (h.2 u hu).1, ffx_rng hp ch u (h.2 u hu).2⟩
theorem ffx_snoc (p : Int) (t ch : List Int) (x : Int) : ffx p t (ch ++ [x]) = K03.fx p x ((ffx p t ch).take ((ffx p t ch).length / 2)) ((ffx p t ch).drop ((ffx p t ch).length / 2)) := by
  unfold ffx
  rw [List.foldl_append]; rfl
theorem fixT_snoc {p : Int} {w : Wd} {ts : List (List Int)} {ch : List Int} {k : Nat} (x : Int) (h : Tabs p w (2 ^ (ch.length + k + 1)) ts) : fixT p ts (ch ++ [x]) = fxs p x (2 ^ k) (fixT p ts ch) := by
  unfold fixT fxs
  rw [List.map_map]
  apply List.map_congr_left
  intro t ht
  have l := ffx_len p ch t (k + 1) (h.2 t ht).1
  have l2 : (ffx p t ch).length / 2 = 2 ^ k := by rw [l, Nat.pow_succ]; omega
  show ffx p t (ch ++ [x]) = _
  rw [ffx_snoc, l2]; rfl
theorem two2 (k : Nat) : 2 ^ (k + 1) = 2 * 2 ^ k := by rw [Nat.pow_succ]; omega
theorem allBits_lb : ∀ k, allBits k = (List.range (2 ^ k)).map fun i => K03.lbits i k
  | 0 => by simp [allBits, List.range_succ, K03.lbits]
  | k + 1 => by
    have ih := allBits_lb k
    rw [allBits_cons, ih, Nat.pow_succ, Nat.mul_two, List.range_add, List.map_append, List.map_map, List.map_map, List.map_map]
    congr 1
    · apply List.map_congr_left
      intro i hi
      have hi := List.mem_range.mp hi
      simp only [Function.comp_def, K03.lbits_succ]
      rw [Nat.div_eq_of_lt hi]; rfl
    · apply List.map_congr_left
      intro i hi
      have hi := List.mem_range.mp hi
      simp only [Function.comp_def, K03.lbits_succ]
      have e : (2 ^ k + i) / 2 ^ k = 1 := by
        rw [Nat.add_div_left _ (Nat.two_pow_pos k), Nat.div_eq_of_lt hi]
      have e2 : K03.lbits (2 ^ k + i) k = K03.lbits i k := by
        rw [Nat.add_comm]; exact K03.lbits_add i k k (Nat.le_refl _)
      rw [e, e2]; rfl
theorem numV_rng {p : Int} (hp : 0 < p) (w : Wd) (ns : List Int) : 0 ≤ numV p w ns ∧ numV p w ns < p := mod_rng hp _
theorem extV_len (p : Int) (ts : List (List Int)) (pt : List Int) : (extV p ts pt).length = ts.length := by simp [extV]
theorem extV_rng {p : Int} (hp : 0 < p) (ts : List (List Int)) (pt : List Int) : Rng p (extV p ts pt) := by
  intro y hy
  obtain ⟨t, _, rfl⟩ := List.mem_map.mp hy
  exact mod_rng hp _
/-- a rest, told by extensions -/
theorem rest_num {p : Int} (hp : 0 < p) {w : Wd} {ts : List (List Int)} {ch : List Int} {k : Nat} (h : Tabs p w (2 ^ (ch.length + k)) ts) :
    K03.Eqp p ((allBits k).map fun b => numV p w (extV p ts (ch ++ b))).sum (restV p w ts ch) := by
  have T := fixT_tabs hp h
  refine K03.Eqp.trans ?_ (whl_E T).symm
  rw [allBits_lb, List.map_map]
  refine rsum_eqp _ fun i hi => ?_
  refine (K03.Eqp.md p _).trans (trE_eqp w fun j hj => ?_)
  obtain ⟨t, ej, ed, tl, tr⟩ := h.at hj
  have e1 : (extV p ts (ch ++ K03.lbits i k)).getD j 0 = K03.dot t (K03.W p 1 (ch ++ K03.lbits i k)) % p := by simp [extV, ej]
  have e2 : cl (fixT p ts ch) i j = (ffx p t ch).getD i 0 := by simp [cl, fixT, ej]
  rw [e1, e2]
  refine (K03.Eqp.md p _).trans ((evE t _ (by rw [tl, List.length_append, K03.lbits_len])).trans ?_)
  have f := ffx_E p ch t (K03.lbits i k) (by rw [tl, K03.lbits_len])
  have g := K03.E_bits k i (ffx p t ch) (ffx_len p ch t k tl) hi
  refine f.symm.trans (.rfl' ?_)
  rw [List.getD_eq_getElem?_getD, g]; rfl
theorem rest_mod {p : Int} (hp : 0 < p) {w : Wd} {ts : List (List Int)} {ch : List Int} {k : Nat} (h : Tabs p w (2 ^ (ch.length + k)) ts) :
    ((allBits k).map fun b => numV p w (extV p ts (ch ++ b))).sum % p = restV p w ts ch :=
  (rest_num hp h).symm.lift (whl_rng hp _ _).1 (whl_rng hp _ _).2
theorem rest_full {p : Int} (hp : 0 < p) {w : Wd} {ts : List (List Int)} {ch : List Int} (h : Tabs p w (2 ^ ch.length) ts) : restV p w ts ch = numV p w (extV p ts ch) := by
  have := rest_mod (k := 0) hp h
  rw [← this]
  simp [allBits]
  exact Int.emod_eq_of_lt (numV_rng hp w _).1 (numV_rng hp w _).2
theorem whl_num {p : Int} (hp : 0 < p) {w : Wd} {l : Nat} {ts : List (List Int)} (h : Tabs p w l ts) : ((List.range l).map fun i => numV p w (ts.map fun t => t.getD i 0)).sum % p = whl p w ts := by
  refine (K03.Eqp.lift ((whl_E h).trans (rsum_eqp l fun i hi => ?_)) (whl_rng hp _ _).1 (whl_rng hp _ _).2)
  refine K03.Eqp.trans (trE_eqp w fun j hj => ?_) (K03.Eqp.md p _).symm
  obtain ⟨t, ej, ed, tl, tr⟩ := h.at hj
  exact .rfl' (by simp [cl, ej])
/-- the numbers at a full point, told by fixing -/
theorem fix_full {p : Int} (hp : 1 < p) {w : Wd} {ts : List (List Int)} {ch : List Int} (h : Tabs p w (2 ^ ch.length) ts) : fixT p ts ch = (extV p ts ch).map fun x => [x] := by
  unfold fixT extV
  rw [List.map_map]
  apply List.map_congr_left
  intro t ht
  obtain ⟨tl, tr⟩ := h.2 t ht
  have l := ffx_len p ch t 0 (by simpa using tl)
  match hx : ffx p t ch, l with
  | [x], _ =>
    have r := ffx_rng (show 0 < p by omega) ch t tr x (by rw [hx]; simp)
    have e := ffx_E p ch t [] (by simpa using tl)
    rw [hx, List.append_nil] at e
    have e1 : K03.E [x] [] = x := rfl
    rw [e1] at e
    have := (e.trans (evE t ch tl).symm).lift r.1 r.2
    simp only [Function.comp_def]
    rw [this]
theorem fold_mul {p : Int} (hp : 0 < p) : ∀ (ns : List Int) (f : Int), ns.foldl (fun f x => f * x % p) (f % p) = (f * ns.foldr (· * ·) 1) % p
  | [], f => by simp
  | x :: ns, f => by
    have := fold_mul hp ns (f % p * x)
    simp only [List.foldl_cons, List.foldr_cons]
    rw [this]
    refine K03.Eqp.mod ?_
    refine (((K03.Eqp.md p f).mul (.refl p x)).mul (.refl p _)).trans (.rfl' ?_)
    rw [Int.mul_assoc]
theorem num_fold {p : Int} (hp : 1 < p) {w : Wd} {ns : List Int} (hw : w ≠ .choice) (hl : ns.length = w.many) : ns.foldl (fun f x => f * x % p) 1 = numV p w ns := by
  have e : (1 : Int) % p = 1 := Int.emod_eq_of_lt (by decide) hp
  have := fold_mul (show 0 < p by omega) ns 1
  rw [e] at this
  rw [this]
  unfold numV
  congr 1
  cases w with
  | choice => exact absurd rfl hw
  | one => match ns, hl with | [a], _ => simp [trE]
  | two => match ns, hl with | [a, b], _ => simp [trE]
  | three => match ns, hl with | [a, b, c], _ => simp [trE]
theorem tcast {p : Int} {w : Wd} {l m : Nat} {ts : List (List Int)} (h : Tabs p w l ts) (e : l = m) : Tabs p w m ts := e ▸ h
theorem dueV_get {p : Int} {w : Wd} {ts : List (List Int)} {ch : List Int} {at' i : Nat} (hi : i ≤ w.deg) : (dueV p w ts ch at')[i]? = some (lin p w (2 ^ (ch.length - at' - 1)) (fixT p ts (ch.take at')) (i : Int)) := by
  simp [dueV, valsN, show i < w.deg + 1 by omega]
theorem dueV_len (p : Int) (w : Wd) (ts : List (List Int)) (ch : List Int) (at' : Nat) : (dueV p w ts ch at').length = w.deg + 1 := by simp [dueV, valsN]
theorem valsN_rng {p : Int} (hp : 0 < p) (w : Wd) (n : Nat) (ts : List (List Int)) : Rng p (valsN p w n ts) := by
  intro y hy
  obtain ⟨i, _, rfl⟩ := List.mem_map.mp hy
  exact lin_rng hp _ _ _ _
/-- the tables ahead of a round -/
theorem tabs_at {p : Int} (hp : 0 < p) {w : Wd} {ts : List (List Int)} {ch : List Int} {i : Nat} (h : Tabs p w (2 ^ ch.length) ts) (hi : i < ch.length) : Tabs p w (2 * 2 ^ (ch.length - i - 1)) (fixT p ts (ch.take i)) := by
  have l : (ch.take i).length = i := by simp; omega
  have := fixT_tabs (k := ch.length - i) (ch := ch.take i) hp (tcast h (by rw [l]; congr 1; omega))
  exact tcast this (by rw [← two2]; congr 1; omega)
theorem rest_lin {p : Int} {w : Wd} {ts : List (List Int)} {ch : List Int} {k : Nat} (x : Int) (h : Tabs p w (2 ^ (ch.length + k + 1)) ts) : restV p w ts (ch ++ [x]) = lin p w (2 ^ k) (fixT p ts ch) x := by
  unfold restV lin
  rw [fixT_snoc x h]
theorem take_one {α : Type} {xs : List α} {i : Nat} (h : i < xs.length) : xs.take (i + 1) = xs.take i ++ [xs[i]] := by rw [List.take_add_one, List.getElem?_eq_getElem h]; rfl
theorem rest_next {p : Int} {w : Wd} {ts : List (List Int)} {ch : List Int} {i : Nat} (h : Tabs p w (2 ^ ch.length) ts) (hi : i < ch.length) : restV p w ts (ch.take (i + 1)) = lin p w (2 ^ (ch.length - i - 1)) (fixT p ts (ch.take i)) ch[i] := by
  have l : (ch.take i).length = i := by simp; omega
  rw [take_one hi]
  exact rest_lin _ (tcast h (by rw [l]; congr 1; omega))
theorem due_of {p : Int} {w : Wd} {ts : List (List Int)} {ch : List Int} {i : Nat} (h : Tabs p w (2 ^ ch.length) ts) (hi : i < ch.length) : (List.range (w.deg + 1)).map (fun x : Nat => restV p w ts (ch.take i ++ [(x : Int)])) = dueV p w ts ch i := by
  unfold dueV valsN
  apply List.map_congr_left
  intro x _
  have l : (ch.take i).length = i := by simp; omega
  exact rest_lin _ (tcast h (by rw [l]; congr 1; omega))
theorem prime_sqrt (n k : Nat) (h1 : 1 < n) (hk : n < k * k) (h : ∀ m < k, 2 ≤ m → n % m ≠ 0) : ∀ m, m ∣ n → m = 1 ∨ m = n := by
  intro m hm
  obtain ⟨c, rfl⟩ := hm
  by_cases hmk : m < k
  · left
    have : ¬ 2 ≤ m := fun h2 => h m hmk h2 (Nat.mul_mod_right m c)
    have : m ≠ 0 := by rintro rfl; simp at h1
    omega
  · by_cases hck : c < k
    · right
      have : ¬ 2 ≤ c := fun h2 => h c hck h2 (Nat.mul_mod_left m c)
      have : c ≠ 0 := by rintro rfl; simp at h1
      obtain rfl : c = 1 := by omega
      omega
    · have := Nat.mul_le_mul (Nat.le_of_not_lt hmk) (Nat.le_of_not_lt hck)
      omega
theorem prmM : Pl.Prm 1000003 := Pl.prm_of 1000003 (by decide) (prime_sqrt 1000003 1001 (by decide) (by decide) (by decide +kernel))
section
variable {h : DH} {C a dx : Addr} {fs : List (Str × D)} {σ : DS} {i : Nat} {f : Str} {d v : D}
theorem fldV {Q : DK} (hv : σ[i]? = some (some (.ref a))) (e : h a = some (.ins C dx fs)) (l : fs.lookup f = some d) (q : Q d h) : dFld C f (dVar i) σ h Q := by
  simp only [dFld, dVar, hv, insD_ref e, l]; exact q
theorem methV {Q : DK} {m : Str} {sp : DSp} {t : DTA} (hv : σ[i]? = some (some (.ref a))) (e : h a = some (.ins C dx fs)) (l : fs.lookup m = none) (q : t σ h fun ds h2 => sp (.ref a :: ds) h2 Q) : dMeth C m sp (dVar i) t σ h Q := by
  simp only [dMeth, dVar, hv]; exact ⟨⟨a, dx, fs, insD_ref e, l⟩, q⟩
theorem putG_go {R : DH → Prop} (e : h a = some (.ins C dx fs)) (ln : fs.length < 1000) (q : R (updD h a (.ins C dx (putFD f v fs)))) : rPutF C f (.ref a) v h R := by
  simp only [rPutF, insD_ref e]; exact ⟨ln, q⟩
end
theorem updD_updD {h : DH} {a : Addr} {o o' : DO} : updD (updD h a o) a o' = updD h a o' := by
  funext b
  by_cases e : b = a
  · subst e; rw [updD_same, updD_same]
  · rw [updD_ne e, updD_ne e, updD_ne e]
theorem p_degree_of : ∀ ds h Q, sp_degree_of ds h Q → t_degree_of (endD Q) (startD N_degree_of ds) h := by
  rintro _ h Q ⟨w, rfl, q⟩
  rw [st_degree_of]; unfold t_degree_of
  walk_at "D"
  simp only [dGIx]
  walk_at "D"
  have e : K_DEGREES.lookup (Str.ofString w.str) = some (.int (w.deg : Nat)) := by cases w <;> rfl
  show (match K_DEGREES.lookup (Str.ofString w.str) with
    | some d => ∃ h'', Sub h'' h ∧ Q d h''
    | none => False)
  rw [e]
  exact ⟨h, .refl _, q⟩
theorem nm_ix {h : DH} {Q : DK} {x : D} {ns : List Int} (hx : NmD h x ns) {j : Nat} (hj : j < ns.length) (q : Q (.int (ns.getD j 0)) h) : rIx x (.int (j : Nat)) h Q := by
  rcases hx with rfl | ⟨a, rfl, e⟩
  · exact ix_at (getD_some hj) q
  · exact ix_ref e (by omega) (by rw [Int.toNat_natCast]; exact getD_some hj) q
theorem nm_seq {σ : DS} {h : DH} {R : List D → (DH → Prop) → DH → Prop} {i : Nat} {x : D} {ns : List Int} (hx : NmD h x ns) (hv : σ[i]? = some (some x)) (r : ∀ stay : DH → Prop, stay h → R (IL ns) stay h) : dSeqI (dVar i) σ h R := by
  rcases hx with rfl | ⟨a, rfl, e⟩
  · exact seqV_tup hv (r _ trivial)
  · exact seqV_lst hv e (r _ e)
theorem p_number_of : ∀ ds h Q, sp_number_of ds h Q → t_number_of (endD Q) (startD N_number_of ds) h := by
  rintro _ h Q ⟨p, w, ns, x, rfl, hx, ⟨p1, p2⟩, hr, hl, q⟩
  rw [st_number_of]; unfold t_number_of
  walk_at "D"
  by_cases hw : w = .choice
  · subst hw
    refine rEq_lit true (by decide +kernel) ?_
    walk_at "D"
    match ns, hl with
    | [a, b, c, d], _ =>
      have r0 := hr a (by simp)
      have r1 := hr b (by simp)
      have e : ∀ Q : Prop, Q → (([D.int a, D.int b, D.int c, D.int d] : List D).length = 4 ∧ Q) := fun Q q => ⟨rfl, q⟩
      rcases hx with rfl | ⟨ad, rfl, ea⟩
      · simp only [dgUnb, List.map_cons, List.map_nil]
        walk_at "D"
        exact ⟨mulC_l (by omega) (by omega), mulC_l (by omega) (by omega), mulC_l (by omega) (by omega), by omega, h, .refl _, q⟩
      · simp only [dgUnb, ea, List.map_cons, List.map_nil]
        walk_at "D"
        exact ⟨mulC_l (by omega) (by omega), mulC_l (by omega) (by omega), mulC_l (by omega) (by omega), by omega, h, .refl _, q⟩
  · refine rEq_lit false (by cases w <;> first | exact absurd rfl hw | decide +kernel) ?_
    walk_at "D"
    refine for_dep (fun its h1 stay => its = IL ns ∧ h1 = h ∧ stay h) (fun R r => nm_seq hx rfl fun stay hst => r _ _ _ ⟨rfl, rfl, hst⟩) ?_
    rintro its h1 stay ⟨rfl, rfl, hst⟩
    refine for_mk (its := IL ns) (h1 := h1) (stay := stay) (fun R r => r) (fun i σ h' => h' = h1 ∧ ∃ (o8 : Option D) (f : Int), σ = [some (.int p), some (.str (Str.ofString w.str)), some x, none, none, none, none, some (.int f), o8] ∧ 0 ≤ f ∧ f < p ∧ f = (ns.take i).foldl (fun f x => f * x % p) 1) ⟨rfl, none, 1, rfl, by decide, by omega, rfl⟩ (fun i σ h' q => by rw [q.1]; exact hst) ?_ ?_
    · rintro i d σ _ hd ⟨rfl, o8, f, rfl, f0, f1, hf⟩
      obtain ⟨y, hy, rfl⟩ := IL_get hd
      walk_at "D"
      have md := mod_rng (show 0 < p by omega) (f * y)
      refine ⟨mulC_l (by omega) (by omega), by omega, _, _, rfl, md.1, md.2, ?_⟩
      rw [take_next hy, List.foldl_append, ← hf]; rfl
    · rintro σ _ ⟨rfl, o8, f, rfl, f0, f1, hf⟩
      rw [List.length_map, List.take_length, num_fold p1 hw hl] at hf
      walk_at "D"
      exact ⟨_, .refl _, by rw [hf]; exact q⟩
theorem p_whole_sum : ∀ ds h Q, sp_whole_sum ds h Q → t_whole_sum (endD Q) (startD N_whole_sum ds) h := by
  rintro _ h Q ⟨p, w, ts, l, rfl, pp, ht, hl, q⟩
  have p1 := pp.1
  rw [st_whole_sum]; unfold t_whole_sum
  walk_at "D"
  have hm : 1 ≤ ts.length ∧ ts.length ≤ 4 := by rw [ht.1]; cases w <;> decide
  have ec : colsD (ts.map IL) l = (List.range l).map fun i => D.tup (IL (ts.map fun t => t.getD i 0)) := by
    unfold colsD
    apply List.map_congr_left
    intro i hi
    have hi := List.mem_range.mp hi
    simp only [List.map_map]
    congr 1
    apply List.map_congr_left
    intro t hm
    have : i < t.length := by rw [(ht.2 t hm).1]; exact hi
    simp [this]
  refine lc_of (h1 := h) (stay := fun _ => True) (List.range l) (fun i => D.tup (IL (ts.map fun t => t.getD i 0))) (fun i => .int (numV p w (ts.map fun t => t.getD i 0))) (fun R r => ?_) trivial (by simp; omega) ?_ ?_
  · simp only [dZipM]
    walk_at "D"
    refine ⟨ts.map IL, l, by simp [itemsD], by simpa using hm, ?_, by rw [ec]; exact r⟩
    intro r hr
    obtain ⟨t, hm, rfl⟩ := List.mem_map.mp hr
    rw [List.length_map]; exact (ht.2 t hm).1
  · intro i Q hi q
    have hi := List.mem_range.mp hi
    walk_at "D"
    refine ⟨p, w, _, _, rfl, .inl rfl, pp, ?_, by simp [ht.1], q⟩
    intro y hy
    obtain ⟨t, hm, rfl⟩ := List.mem_map.mp hy
    obtain ⟨tl, tr⟩ := ht.2 t hm
    exact tr.get (i := i) (by simp [show i < t.length by omega])
  · intro a ha
    refine ⟨p, .ref a, (List.range l).map fun i => numV p w (ts.map fun t => t.getD i 0), rfl, items_lst (by rw [updD_same]; simp [Function.comp_def]), by omega, h, sub_new ha, ?_⟩
    rw [whl_num (by omega) ht]; exact q
theorem p_all_points : ∀ ds h Q, sp_all_points ds h Q → t_all_points (endD Q) (startD N_all_points ds) h := by
  rintro _ h Q ⟨k, rfl, hk, q⟩
  rw [st_all_points]; unfold t_all_points
  walk_at "D"
  refine ⟨le_size (by decide), le_size (by decide), fun a0 ha0 => ?_⟩
  refine for_mk (its := rngD 0 k) (stay := fun _ => True) (h1 := updD h a0 (.lst [.tup []])) (fun R r => rngN (fun Q q => by walk_at "D"; exact q) (by omega) r) (fun i σ h' => i ≤ k ∧ ∃ (a : Addr) (o2 o3 o4 : Option D), σ = [some (.int k), some (.ref a), o2, o3, o4] ∧ Sub h h' ∧ h a = none ∧ h' a = some (.lst (TL (allBits i)))) ⟨by omega, a0, none, none, none, rfl, sub_new ha0, ha0, by rw [updD_same]; rfl⟩ (fun _ _ _ _ => trivial) ?_ ?_
  · rintro i d σ h1 hd ⟨_, a, o2, o3, o4, rfl, hs, hna, ha⟩
    obtain ⟨hi, rfl⟩ := rng_some hd
    walk_at "D"
    have l8 : (allBits i).length ≤ 8 := by rw [allBits_len]; exact Nat.le_trans (Nat.pow_le_pow_right (by decide) (show i ≤ 3 by omega)) (by decide)
    unfold dLc2
    refine seqV_lst rfl ha ⟨fun j acc h' => h' = h1 ∧ acc = TL (((allBits i).take j).flatMap fun b => [b ++ [0], b ++ [1]]), ⟨rfl, rfl⟩, ?_⟩
    rintro j acc h1 ⟨rfl, rfl⟩
    refine ⟨ha, ?_, ?_⟩
    · intro d hd
      simp only [List.getElem?_map, Option.map_eq_some_iff] at hd
      obtain ⟨bs, hbs, rfl⟩ := hd
      have hj : j < (allBits i).length := (List.getElem?_eq_some_iff.mp hbs).1
      have bl := (allBits_mem i bs (List.mem_of_getElem? hbs)).1
      walk_at "D"
      have big : (((allBits i).take j).flatMap fun b => [b ++ [0], b ++ [1]]).length ≤ 16 := by
        simp only [List.length_flatMap, List.length_cons, List.length_nil, List.map_const', List.sum_replicate_nat, List.length_take]
        omega
      refine seq_tup (ds := [.int 0, .int 1]) (fun Q q => by walk_at "D"; exact ⟨le_size (by decide), q⟩) ⟨fun m acc h' => h' = h1 ∧ acc = TL (((allBits i).take j).flatMap fun b => [b ++ [0], b ++ [1]]) ++ (([0, 1] : List Int).take m).map fun x => D.tup (IL (bs ++ [x])), ⟨rfl, by simp⟩, ?_⟩
      rintro m acc h1 ⟨rfl, rfl⟩
      refine ⟨trivial, ?_, ?_⟩
      · intro d hd
        have hd' : (([0, 1] : List Int).map D.int)[m]? = some d := hd
        obtain ⟨x, hx, rfl⟩ := IL_get hd'
        have hm : m < 2 := (List.getElem?_eq_some_iff.mp hx).1
        walk_at "D"
        simp only [itemsD]
        refine ⟨le_size (by simp; omega), lt_size (by simp only [List.length_append, List.length_map, List.length_take, List.length_cons, List.length_nil]; omega), ?_⟩
        rw [List.append_assoc, take_next hx, List.map_append]
        simp
      · rintro rfl
        refine ⟨rfl, ?_⟩
        rw [take_next hbs, List.flatMap_append]
        simp
    · rintro rfl b hb
      refine ⟨by omega, b, _, _, _, rfl, hs.new hb, ?_, ?_⟩
      · cases e : h b with
        | none => rfl
        | some o => rw [hs _ _ e] at hb; cases hb
      · rw [updD_same, List.length_map, List.take_length]; rfl
  · rintro σ h1 ⟨_, a, o2, o3, o4, rfl, hs, hna, ha⟩
    rw [rngD_len] at ha
    walk_at "D"
    exact ⟨_, .refl _, q a h1 hs hna ha⟩
theorem p_number_at : ∀ ds h Q, sp_number_at ds h Q → t_number_at (endD Q) (startD N_number_at ds) h := by
  rintro _ h Q ⟨p, w, ts, pt, rfl, pp, hr, hz, ht, q⟩
  have p1 := pp.1
  rw [st_number_at]; unfold t_number_at
  walk_at "D"
  have hm : ts.length ≤ 4 := by rw [ht.1]; cases w <;> decide
  have l8 := pw8 hz
  refine lc_of (h1 := h) (stay := fun _ => True) ts (fun t => .tup (IL t)) (fun t => .int (K03.dot t (K03.W p 1 pt) % p)) (fun R r => seqV_tup rfl r) trivial (by omega) ?_ ?_
  · intro t Q hm q
    obtain ⟨tl, tr⟩ := ht.2 t hm
    walk_at "D"
    exact ⟨p, t, pt, rfl, pp, hr, hz, by omega, tr, q⟩
  · intro a ha
    refine ⟨p, w, extV p ts pt, .ref a, rfl, .inr ⟨a, rfl, by rw [updD_same]; simp [extV, Function.comp_def]⟩, pp, extV_rng (by omega) _ _, by rw [extV_len]; exact ht.1, h, sub_new ha, q⟩
theorem p_rest_sum : ∀ ds h Q, sp_rest_sum ds h Q → t_rest_sum (endD Q) (startD N_rest_sum ds) h := by
  rintro _ h Q ⟨p, w, ts, ch, k, rfl, pp, p5, hr, hz, ht, q⟩
  have p1 := pp.1
  rw [st_rest_sum]; unfold t_rest_sum
  walk_at "D"
  obtain ⟨t0, e0, _, t0l, _⟩ := ht.at (many_pos w)
  refine ix_at (i := 0) (x := .tup (IL t0)) (by simp [e0]) ?_
  refine ⟨_, ch.length + k, rfl, by simpa using t0l, by omega, ?_⟩
  walk_at "D"
  rw [List.length_map, show ((ch.length + k : Nat) : Int) - (ch.length : Int) = (k : Nat) by omega]
  refine lc_dep2 (fun its h1 stay => ∃ a, its = TL (allBits k) ∧ Sub h h1 ∧ h1 a = some (.lst its) ∧ stay = fun h' => h' a = some (.lst its)) (fun R r => ?_) ?_
  · simp only [dSeqI]
    walk_at "D"
    refine ⟨k, rfl, by omega, fun a h' hs ha0 ha => ?_⟩
    simp only [srcD, ha]
    exact r _ _ _ ⟨a, rfl, hs, ha, rfl⟩
  rintro its h1 stay ⟨a, rfl, hs, ha, rfl⟩
  have lA : (allBits k).length ≤ 16 := by rw [allBits_len]; exact Nat.le_trans (Nat.pow_le_pow_right (by decide) (show k ≤ 4 by omega)) (by decide)
  refine lc_of (h1 := h1) (allBits k) (fun b => .tup (IL b)) (fun b => .int (numV p w (extV p ts (ch ++ b)))) (fun R r => r) ha (by omega) ?_ ?_
  · intro b Q hb q
    obtain ⟨bl, br⟩ := allBits_mem k b hb
    walk_at "D"
    simp only [itemsD]
    have e : IL ch ++ (IL b ++ []) = IL (ch ++ b) := by simp
    rw [e]
    refine ⟨le_size (by simp; omega), p, w, ts, ch ++ b, rfl, pp, ?_, by simp; omega, ?_, q⟩
    · intro y hy
      rcases List.mem_append.mp hy with hy | hy
      · exact hr y hy
      · have := br y hy; omega
    · exact tcast ht (by rw [List.length_append, bl])
  · intro c hc
    refine ⟨p, .ref c, (allBits k).map fun b => numV p w (extV p ts (ch ++ b)), rfl, items_lst (by rw [updD_same]; simp [Function.comp_def]), by omega, h, fun d o e => keeps_new hc _ _ (hs _ _ e), ?_⟩
    rw [rest_mod (by omega) ht]; exact q
theorem p_fixed_all : ∀ ds h Q, sp_fixed_all ds h Q → t_fixed_all (endD Q) (startD N_fixed_all ds) h := by
  rintro _ h Q ⟨p, x, w, ts, n, rfl, pp, x0, x1, hn, ht, q⟩
  rw [st_fixed_all]; unfold t_fixed_all
  walk_at "D"
  have hm : ts.length ≤ 4 := by rw [ht.1]; cases w <;> decide
  refine lc_of (h1 := h) (stay := fun _ => True) ts (fun t => .tup (IL t)) (fun t => .tup (IL (K03.fx p x (t.take n) (t.drop n)))) (fun R r => seqV_tup rfl r) trivial (by omega) ?_ ⟨h, .refl _, by simpa [fxs, Function.comp_def] using q⟩
  intro t Q hm q
  obtain ⟨tl, tr⟩ := ht.2 t hm
  walk_at "D"
  exact ⟨p, x, t, n, rfl, pp, tr, x0, x1, tl, by omega, q⟩
theorem p_round_of : ∀ ds h Q, sp_round_of ds h Q → t_round_of (endD Q) (startD N_round_of ds) h := by
  rintro _ h Q ⟨p, w, ts, n, rfl, pp, p5, hn, ht, q⟩
  have d3 : w.deg ≤ 3 := by cases w <;> decide
  rw [st_round_of]; unfold t_round_of
  walk_at "D"
  refine lc_rng (w.deg + 1) (h1 := h) (fun i => .int (lin p w n ts (i : Int))) (fun R r => rngN (fun Q q => ?_) (by omega) r) (by omega) ?_ ⟨h, .refl _, by simpa [valsN, Function.comp_def] using q⟩
  · walk_at "D"
    refine ⟨w, rfl, ?_⟩
    walk_at "D"
    exact q
  · intro i Q hi q
    walk_at "D"
    refine ⟨p, i, w, ts, n, rfl, pp, by omega, by omega, hn, ht, ?_⟩
    exact ⟨p, w, _, n, rfl, pp, ht.fxs (by omega) _, hn, q⟩
theorem p_last_numbers : ∀ ds h Q, sp_last_numbers ds h Q → t_last_numbers (endD Q) (startD N_last_numbers ds) h := by
  rintro _ h Q ⟨p, w, ts, pt, rfl, pp, hr, hz, ht, q⟩
  rw [st_last_numbers]; unfold t_last_numbers
  walk_at "D"
  have hm : ts.length ≤ 4 := by rw [ht.1]; cases w <;> decide
  have l8 := pw8 hz
  refine lc_of (h1 := h) (stay := fun _ => True) ts (fun t => .tup (IL t)) (fun t => .int (K03.dot t (K03.W p 1 pt) % p)) (fun R r => seqV_tup rfl r) trivial (by omega) ?_ ⟨h, .refl _, by simpa [extV, Function.comp_def] using q⟩
  intro t Q hm q
  obtain ⟨tl, tr⟩ := ht.2 t hm
  walk_at "D"
  exact ⟨p, t, pt, rfl, pp, hr, hz, by omega, tr, q⟩
theorem putFD_len (f : Str) (v : D) : ∀ fs : List (Str × D), (putFD f v fs).length ≤ fs.length + 1
  | [] => by simp [putFD]
  | (g, x) :: r => by
    have := putFD_len f v r
    unfold putFD
    split
    · simp
    · simp only [List.length_cons]; omega
theorem p_Summer___init__ : ∀ ds h Q, sp_Summer___init__ ds h Q → t_Summer___init__ (endD Q) (startD N_Summer___init__ ds) h := by
  rintro _ h Q ⟨p, w, ts, a, dx, rfl, e, q⟩
  rw [st_Summer___init__]; unfold t_Summer___init__
  walk_at "D"
  simp only [dgFld, dFldS]
  walk_at "D"
  refine ⟨le_size (by decide), putG_go e (by simp) ?_⟩
  have l1 := putFD_len "its_p" (.int p) []
  have l2 := putFD_len "its_word" (.str (Str.ofString w.str)) (putFD "its_p" (.int p) [])
  have l3 := putFD_len "its_tables" (.tup (TL ts)) (putFD "its_word" (.str (Str.ofString w.str)) (putFD "its_p" (.int p) []))
  simp only [List.length_nil] at l1
  refine putG_go updD_same (by omega) ?_
  rw [updD_updD]
  refine putG_go updD_same (by omega) ?_
  rw [updD_updD]
  refine ⟨le_size (by decide), putG_go updD_same (by omega) ?_⟩
  rw [updD_updD]
  exact ⟨_, .refl _, q⟩
theorem p_Summer_told : ∀ ds h Q, sp_Summer_told ds h Q → t_Summer_told (endD Q) (startD N_Summer_told ds) h := by
  rintro _ h Q ⟨p, w, ts, pt, n, a, dx, rfl, e, pp, p5, hn, ht, q⟩
  rw [st_Summer_told]; unfold t_Summer_told
  walk_at "D"
  refine fldV rfl e rfl (fldV rfl e rfl (fldV rfl e rfl ?_))
  exact ⟨p, w, ts, n, rfl, pp, p5, hn, ht, h, .refl _, q⟩
theorem put_tab {p : Int} {w : Wd} {ts us : List (List Int)} {pt : List Int} : putFD "its_tables" (.tup (TL us)) (sumF p w ts pt) = sumF p w us pt := by rfl
theorem put_pt {p : Int} {w : Wd} {ts : List (List Int)} {pt pu : List Int} : putFD "its_point" (.tup (IL pu)) (sumF p w ts pt) = sumF p w ts pu := by rfl
theorem p_Summer_draw : ∀ ds h Q, sp_Summer_draw ds h Q → t_Summer_draw (endD Q) (startD N_Summer_draw ds) h := by
  rintro _ h Q ⟨p, x, w, ts, pt, n, a, dx, rfl, e, pp, x0, x1, hn, hz, ht, q⟩
  rw [st_Summer_draw]; unfold t_Summer_draw
  walk_at "D"
  simp only [dFldS]
  walk_at "D"
  refine fldV rfl e rfl (fldV rfl e rfl ?_)
  refine ⟨p, x, w, ts, n, rfl, pp, x0, x1, hn, ht, putG_go e (by simp [sumF]) ?_⟩
  rw [put_tab]
  refine fldV rfl updD_same rfl ?_
  simp only [itemsD]
  have e2 : IL pt ++ [D.int x] = IL (pt ++ [x]) := by simp
  rw [e2]
  refine ⟨le_size (by simp; omega), putG_go updD_same (by simp [sumF]) ?_⟩
  rw [put_pt, updD_updD]
  exact ⟨_, .refl _, q⟩
theorem duesD_len (p : Int) (w : Wd) (ts : List (List Int)) (ch : List Int) : (duesD p w ts ch).length = ch.length := by simp [duesD]
theorem p_rounds_of : ∀ ds h Q, sp_rounds_of ds h Q → t_rounds_of (endD Q) (startD N_rounds_of ds) h := by
  rintro _ h Q ⟨p, w, ts, ch, rfl, pp, p5, hr, hz, ht, q⟩
  rw [st_rounds_of]; unfold t_rounds_of
  walk_at "D"
  simp only [dMake]
  walk_at "D"
  intro x dx hx
  refine ⟨p, w, ts, x, dx, rfl, updD_same, rfl, ?_⟩
  rw [updD_updD]
  refine ⟨le_size (by decide), fun f hf => ?_⟩
  have hxf : x ≠ f := by rintro rfl; rw [updD_same] at hf; cases hf
  have hf0 : h f = none := by rw [updD_ne hxf.symm] at hf; exact hf
  refine for_mk (its := IL ch) (stay := fun _ => True) (fun R r => seqV_tup rfl r) (fun i σ h' => (∀ b o, h b = some o → h' b = some o) ∧ h' x = some (.ins ClsA.Summer dx (sumF p w (fixT p ts (ch.take i)) (ch.take i))) ∧ h' f = some (.lst ((duesD p w ts ch).take i)) ∧ ∃ o6 : Option D, σ = [some (.int p), some (.str (Str.ofString w.str)), some (.tup (TL ts)), some (.tup (IL ch)), some (.ref x), some (.ref f), o6]) ⟨?_, ?_, ?_, _, rfl⟩ (fun _ _ _ _ => trivial) ?_ ?_
  · intro b o e
    rw [updD_ne (by rintro rfl; rw [hf0] at e; cases e), updD_ne (by rintro rfl; rw [hx] at e; cases e)]; exact e
  · rw [updD_ne hxf, updD_same, List.take_zero, fixT_nil]
  · rw [updD_same]; rfl
  · rintro i d σ h1 hd ⟨hs, ex, ef, o6, rfl⟩
    obtain ⟨c, hc, rfl⟩ := IL_get hd
    have hi : i < ch.length := (List.getElem?_eq_some_iff.mp hc).1
    have cr := hr.get hc
    have T := tabs_at (by omega) ht hi
    have pw : 2 ^ (ch.length - i - 1) ≤ 256 := pw8 (by omega)
    have ec : ch[i] = c := by rw [List.getElem?_eq_getElem hi] at hc; exact Option.some.inj hc
    walk_at "D"
    refine ⟨isLst_ref ef, ?_⟩
    refine methV rfl ex rfl ?_
    walk_at "D"
    refine ⟨p, w, _, _, 2 ^ (ch.length - i - 1), x, dx, rfl, ex, pp, p5, pw, T, ?_⟩
    refine append_ref ef (lt_size (by simp; have := duesD_len p w ts ch; omega)) ?_
    have ex2 : updD h1 f (.lst ((duesD p w ts ch).take i ++ [D.tup (IL (valsN p w (2 ^ (ch.length - i - 1)) (fixT p ts (ch.take i))))])) x = some (.ins ClsA.Summer dx (sumF p w (fixT p ts (ch.take i)) (ch.take i))) := by rw [updD_ne hxf]; exact ex
    refine methV rfl ex2 rfl ?_
    walk_at "D"
    refine ⟨p, c, w, _, _, 2 ^ (ch.length - i - 1), x, dx, rfl, ex2, pp, cr.1, cr.2, pw, by simp; omega, T, ?_⟩
    refine ⟨fun b o e => ?_, ?_, ?_, _, rfl⟩
    · rw [updD_ne (by rintro rfl; rw [hx] at e; cases e), updD_ne (by rintro rfl; rw [hf0] at e; cases e)]
      exact hs b o e
    · rw [updD_same, take_one hi, ec, fixT_snoc (k := ch.length - i - 1) c (tcast ht (by congr 1; simp; omega))]
    · rw [updD_ne hxf.symm, updD_same]
      have e : (duesD p w ts ch)[i]? = some (.tup (IL (dueV p w ts ch i))) := by simp [duesD, hi]
      rw [take_next e]; rfl
  · rintro σ h1 ⟨hs, ex, ef, o6, rfl⟩
    rw [List.length_map, List.take_of_length_le (by rw [duesD_len]; exact Nat.le_refl _)] at ef
    walk_at "D"
    exact tupleOf_ref ef ⟨h, hs, q⟩
theorem p__law_number : ∀ ds h Q, sp__law_number ds h Q → t__law_number (endD Q) (startD N__law_number ds) h := by
  rintro _ h Q ⟨p, w, ns, x, rfl, hx, ⟨p1, p2⟩, hr, hl, q⟩
  rw [st__law_number]; unfold t__law_number
  walk_at "D"
  by_cases hw : w = .choice
  · subst hw
    refine rEq_lit true (by decide +kernel) ?_
    walk_at "D"
    have l4 : ns.length = 4 := hl
    have gr : ∀ j < 4, 0 ≤ ns.getD j 0 ∧ ns.getD j 0 < p := fun j hj => hr.get (i := j) (by simp [show j < ns.length by omega])
    have r0 := gr 0 (by decide)
    have r1 := gr 1 (by decide)
    refine nm_ix hx (j := 0) (by omega) (nm_ix hx (j := 1) (by omega) (nm_ix hx (j := 2) (by omega) ?_))
    walk_at "D"
    refine ⟨mulC_l (by omega) (by omega), nm_ix hx (j := 1) (by omega) ?_⟩
    walk_at "D"
    refine nm_ix hx (j := 3) (by omega) ?_
    walk_at "D"
    exact ⟨mulC_l (by omega) (by omega), mulC_l (by omega) (by omega), by omega, h, .refl _, q⟩
  · refine rEq_lit false (by cases w <;> first | exact absurd rfl hw | decide +kernel) ?_
    walk_at "D"
    refine for_dep (fun its h1 stay => its = IL ns ∧ h1 = h ∧ stay h) (fun R r => nm_seq hx rfl fun stay hst => r _ _ _ ⟨rfl, rfl, hst⟩) ?_
    rintro its h1 stay ⟨rfl, rfl, hst⟩
    refine for_mk (its := IL ns) (h1 := h1) (stay := stay) (fun R r => r) (fun i σ h' => h' = h1 ∧ ∃ (o8 : Option D) (f : Int), σ = [some (.int p), some (.str (Str.ofString w.str)), some x, some (.int f), o8] ∧ 0 ≤ f ∧ f < p ∧ f = (ns.take i).foldl (fun f x => f * x % p) 1) ⟨rfl, none, 1, rfl, by decide, by omega, rfl⟩ (fun i σ h' q => by rw [q.1]; exact hst) ?_ ?_
    · rintro i d σ _ hd ⟨rfl, o8, f, rfl, f0, f1, hf⟩
      obtain ⟨y, hy, rfl⟩ := IL_get hd
      walk_at "D"
      have md := mod_rng (show 0 < p by omega) (f * y)
      refine ⟨mulC_l (by omega) (by omega), by omega, _, _, rfl, md.1, md.2, ?_⟩
      rw [take_next hy, List.foldl_append, ← hf]; rfl
    · rintro σ _ ⟨rfl, o8, f, rfl, f0, f1, hf⟩
      rw [List.length_map, List.take_length, num_fold p1 hw hl] at hf
      walk_at "D"
      exact ⟨_, .refl _, by rw [hf]; exact q⟩
theorem p__law_rest : ∀ ds h Q, sp__law_rest ds h Q → t__law_rest (endD Q) (startD N__law_rest ds) h := by
  rintro _ h Q ⟨p, w, ts, ch, k, rfl, pp, p5, hr, hz, ht, q⟩
  have p1 := pp.1
  rw [st__law_rest]; unfold t__law_rest
  walk_at "D"
  obtain ⟨t0, e0, _, t0l, _⟩ := ht.at (many_pos w)
  have hm : ts.length ≤ 4 := by rw [ht.1]; cases w <;> decide
  refine ix_at (i := 0) (x := .tup (IL t0)) (by simp [e0]) ?_
  refine ⟨_, ch.length + k, rfl, by simpa using t0l, ?_⟩
  walk_at "D"
  rw [List.length_map, show ((ch.length + k : Nat) : Int) - (ch.length : Int) = (k : Nat) by omega]
  refine for_dep (fun its h1 stay => ∃ a, h a = none ∧ its = TL (allBits k) ∧ h1 = updD h a (.lst its) ∧ stay = fun h' => h' a = some (.lst its)) (fun R r => ?_) ?_
  · simp only [dSeqI]
    walk_at "D"
    refine ⟨k, rfl, by omega, fun a ha => ?_⟩
    simp only [srcD, updD_same]
    exact r _ _ _ ⟨a, ha, rfl, rfl, rfl⟩
  rintro its h1 stay ⟨a, ha0, rfl, rfl, rfl⟩
  refine for_mk (its := TL (allBits k)) (stay := fun h' => h' a = some (.lst (TL (allBits k)))) (fun R r => r) (fun i σ h' => h' a = some (.lst (TL (allBits k))) ∧ Sub h h' ∧ ∃ (o6 : Option D), σ = [some (.int p), some (.str (Str.ofString w.str)), some (.tup (TL ts)), some (.tup (IL ch)), some (.int (k : Nat)), some (.int (((allBits k).take i).map fun b => numV p w (extV p ts (ch ++ b))).sum), o6, none]) ⟨updD_same, sub_new ha0, _, rfl⟩ (fun _ _ _ q => q.1) ?_ ?_
  · rintro i d σ h1 hd ⟨ea, hs, o6, rfl⟩
    simp only [List.getElem?_map, Option.map_eq_some_iff] at hd
    obtain ⟨bs, hbs, rfl⟩ := hd
    obtain ⟨bl, br⟩ := allBits_mem k bs (List.mem_of_getElem? hbs)
    have l2 : (ch ++ bs).length = ch.length + k := by rw [List.length_append, bl]
    have rb : Rng p (ch ++ bs) := by
      intro y hy
      rcases List.mem_append.mp hy with hy | hy
      · exact hr y hy
      · have := br y hy; omega
    walk_at "D"
    refine lc_of (h1 := h1) (stay := fun _ => True) ts (fun t => .tup (IL t)) (fun t => .int (K03.dot t (K03.W p 1 (ch ++ bs)) % p)) (fun R r => seqV_tup rfl r) trivial (by omega) ?_ ?_
    · intro t Q hm q
      obtain ⟨tl, tr⟩ := ht.2 t hm
      walk_at "D"
      have e : IL ch ++ IL bs = IL (ch ++ bs) := by simp
      rw [e]
      exact ⟨le_size (by simp; omega), p, t, ch ++ bs, rfl, pp, rb, by rw [tl, l2], by omega, tr, q⟩
    · intro c hc
      refine ⟨p, w, extV p ts (ch ++ bs), .ref c, rfl, .inr ⟨c, rfl, by rw [updD_same]; simp [extV, Function.comp_def]⟩, pp, extV_rng (by omega) _ _, by rw [extV_len]; exact ht.1, ?_⟩
      walk_at "D"
      refine ⟨keeps_new hc _ _ ea, fun d o e => keeps_new hc _ _ (hs _ _ e), some (.tup (IL bs)), ?_⟩
      rw [take_next hbs]; simp
  · rintro σ h1 ⟨ea, hs, o6, rfl⟩
    rw [List.length_map, List.take_length]
    walk_at "D"
    refine ⟨by omega, h, hs, ?_⟩
    rw [rest_mod (by omega) ht]; exact q
def manyK : List (Key × D) := [(.inr "one", .int 1), (.inr "two", .int 2), (.inr "three", .int 3), (.inr "choice", .int 4)]
theorem alk_dues (h : DH) (p : Int) (w : Wd) (ts : List (List Int)) (ch : List Int) (i : Nat) : Alk h (.tup (IL (dueV p w ts ch i))) (.tup (IL (dueV p w ts ch i))) (w.deg + 1 + 1) := by
  have := Alks.ints h (dueV p w ts ch i)
  rw [dueV_len] at this
  exact .tup this
theorem duesD_get {p : Int} {w : Wd} {ts : List (List Int)} {ch : List Int} {i : Nat} (hi : i < ch.length) : (duesD p w ts ch)[i]? = some (.tup (IL (dueV p w ts ch i))) := by simp [duesD, hi]

theorem nm_enum {σ : DS} {h : DH} {R : List D → (DH → Prop) → DH → Prop} {i : Nat} {x : D} {ns : List Int} (hx : NmD h x ns) (hv : σ[i]? = some (some x)) (r : ∀ stay : DH → Prop, stay h → R (enumD 0 (IL ns)) stay h) : dEnum (dCons (dVar i) dNil) σ h R := by
  rcases hx with rfl | ⟨a, rfl, e⟩
  · exact enum1 hv (r _ trivial)
  · simpa [dEnum, dCons, dVar, hv, dNil, srcD, e] using r (fun h' => h' a = some (.lst (IL ns))) e
theorem nm_len {h : DH} {Q : DK} {x : D} {ns : List Int} (hx : NmD h x ns) (q : Q (.int (ns.length : Nat)) h) : rLen [x] h Q := by
  rcases hx with rfl | ⟨a, rfl, e⟩
  · rw [rLen_tup, List.length_map]; exact q
  · rw [rLen_ref e, List.length_map]; exact q
theorem p__law_curve : ∀ ds h Q, sp__law_curve ds h Q → t__law_curve (endD Q) (startD N__law_curve ds) h := by
  rintro _ h Q ⟨p, x, vs, dv, rfl, hx, ⟨p1, p2⟩, hl, hr, x0, x1, q⟩
  rw [st__law_curve]; unfold t__law_curve
  walk_at "D"
  have md := fun z => mod_rng (show 0 < p by omega) z
  refine for_dep (fun its h1 stay => its = enumD 0 (IL vs) ∧ h1 = h ∧ stay h) (fun R r => nm_enum hx rfl fun stay hst => r _ _ _ ⟨rfl, rfl, hst⟩) ?_
  rintro its h1 stay ⟨rfl, rfl, hst⟩
  refine for_mk (its := enumD 0 (IL vs)) (h1 := h1) (stay := stay) (fun R r => r) (fun i σ h' => h' = h1 ∧ ∃ (f : Int) (o4 o5 o6 o7 o8 : Option D), σ = [some (.int p), some dv, some (.int x), some (.int f), o4, o5, o6, o7, o8] ∧ 0 ≤ f ∧ f < p ∧ K03.Eqp p f (((List.range i).map fun k => Pl.lagT p vs.length k (vs.getD k 0) x).sum)) ⟨rfl, 0, none, none, none, none, none, rfl, by decide, by omega, .refl _ _⟩ (fun i σ h q => by rw [q.1]; exact hst) ?_ ?_
  · rintro i d σ h hd ⟨rfl, f, o4, o5, o6, o7, o8, rfl, f0, f1, hf⟩
    obtain ⟨v, hv', rfl⟩ := enumD_some hd
    obtain ⟨v, hv, rfl⟩ := IL_get hv'
    have hi : i < vs.length := (List.getElem?_eq_some_iff.mp hv).1
    have vr := hr.get hv
    walk_at "D"
    refine for_mk (its := rngD 0 vs.length) (stay := fun _ => True) (fun R r => rngN (fun Q q => by walk_at "D"; exact nm_len hx q) (by omega) r) (fun j σ h' => h' = h ∧ ∃ (u w : Int) (o8 : Option D), σ = [some (.int p), some dv, some (.int x), some (.int f), some (.int i), some (.int v), some (.int u), some (.int w), o8] ∧ 0 ≤ u ∧ u < p ∧ 0 ≤ w ∧ w < p ∧ K03.Eqp p u (v * Pl.px j i x) ∧ K03.Eqp p w (Pl.px j i i)) ⟨rfl, v, 1, o8, rfl, vr.1, vr.2, by decide, p1, .rfl' (by simp [Pl.px]), .refl _ _⟩ (fun _ _ _ _ => trivial) ?_ ?_
    · rintro j d σ h hd ⟨rfl, u, w, o8, rfl, u0, u1, w0, w1, hu, hw⟩
      obtain ⟨hj, rfl⟩ := rng_some hd
      walk_at "D"
      rw [Int.zero_add]
      by_cases hji : j = i
      · rw [if_neg (by simp [hji])]
        refine ⟨u, w, _, rfl, u0, u1, w0, w1, ?_, ?_⟩
        · simpa [Pl.px, hji] using hu
        · simpa [Pl.px, hji] using hw
      · rw [if_pos (by simp; omega)]
        refine ⟨mulC_l (by omega) (by omega), by omega, mulC_l (by omega) (by omega), by omega, _, _, _, rfl, (md _).1, (md _).2, (md _).1, (md _).2, ?_, ?_⟩
        · simp only [Pl.px, hji, if_false]
          exact (K03.Eqp.md p _).trans ((hu.mul (.refl p _)).trans (.rfl' (by grind)))
        · simp only [Pl.px, hji, if_false]
          exact (K03.Eqp.md p _).trans (hw.mul (.refl p _))
    · rintro σ h ⟨rfl, u, w, o8, rfl, u0, u1, w0, w1, hu, hw⟩
      rw [rngD_len] at hu hw
      walk_at "D"
      refine ⟨p, w, rfl, ⟨p1, p2⟩, ?_⟩
      walk_at "D"
      refine ⟨mulC_l (by omega) (by omega), by omega, _, _, _, _, _, _, rfl, (md _).1, (md _).2, ?_⟩
      rw [List.range_succ, List.map_append, List.sum_append]
      refine (K03.Eqp.md p _).trans (hf.add ?_)
      simp only [List.map_cons, List.map_nil, List.sum_cons, List.sum_nil, Int.add_zero]
      unfold Pl.lagT
      rw [show vs.getD i 0 = v by simp [List.getD, hv]]
      exact hu.mul ((K03.Eqp.md p _).trans (pow_eqp hw _))
  · rintro σ _ ⟨rfl, f, o4, o5, o6, o7, o8, rfl, f0, f1, hf⟩
    rw [enumD_len, List.length_map] at hf
    walk_at "D"
    refine ⟨_, .refl _, ?_⟩
    have : Pl.lag p vs x % p = f := hf.lift f0 f1
    rw [← this]; exact q
theorem RdsOk.rd {p : Int} {rs : List (List Int)} {cs : List Int} (h : RdsOk p rs cs) {i : Nat} (hi : i < rs.length) : 2 ≤ (rs.getD i []).length ∧ (rs.getD i []).length ≤ 4 ∧ Rng p (rs.getD i []) := by
  have e : rs.getD i [] = rs[i] := by simp [List.getD, hi]
  rw [e]
  exact h.2.2.2 _ (List.getElem_mem hi)
theorem RdsOk.ch {p : Int} {rs : List (List Int)} {cs : List Int} (h : RdsOk p rs cs) {i : Nat} (hi : i < rs.length) : 0 ≤ cs.getD i 0 ∧ cs.getD i 0 < p := by
  have hi : i < cs.length := by rw [← h.1]; exact hi
  have e : cs.getD i 0 = cs[i] := by simp [List.getD, hi]
  rw [e]
  exact h.2.2.1 _ (List.getElem_mem hi)
theorem TL_get {ts : List (List Int)} {i : Nat} (h : i < ts.length) : (TL ts)[i]? = some (.tup (IL (ts.getD i []))) := by simp [h]
theorem TL_some {ts : List (List Int)} {i : Nat} {d : D} (h : (TL ts)[i]? = some d) : i < ts.length ∧ d = .tup (IL (ts.getD i [])) := by
  simp only [List.getElem?_map, Option.map_eq_some_iff] at h
  obtain ⟨t, ht, rfl⟩ := h
  exact ⟨(List.getElem?_eq_some_iff.mp ht).1, by simp [List.getD, ht]⟩
theorem ahL_len (p v : Int) (rs : List (List Int)) (cs : List Int) : (ahL p v rs cs).length = rs.length + 1 := by simp [ahL]
theorem ahL_get {p v : Int} {rs : List (List Int)} {cs : List Int} {i : Nat} (h : i ≤ rs.length) : (IL (ahL p v rs cs))[i]? = some (.int (ahV p v rs cs i)) := by
  simp [ahL, show i < rs.length + 1 by omega]
theorem ahL_last (p v : Int) (rs : List (List Int)) (cs : List Int) : IL (ahL p v rs cs) = IL ((List.range rs.length).map (ahV p v rs cs)) ++ [.int (ahV p v rs cs rs.length)] := by
  simp [ahL, List.range_succ]
theorem p_does_open : ∀ ds h Q, sp_does_open ds h Q → t_does_open (endD Q) (startD N_does_open ds) h := by
  rintro _ h Q ⟨p, v, r, rfl, p1, hl, q⟩
  rw [st_does_open]; unfold t_does_open
  walk_at "D"
  refine ix_at (i := 0) (getD_some (by omega)) (ix_at (i := 1) (getD_some (by omega)) ?_)
  walk_at "D"
  exact ⟨by omega, h, .refl _, q⟩
theorem p_next_value : ∀ ds h Q, sp_next_value ds h Q → t_next_value (endD Q) (startD N_next_value ds) h := by
  rintro _ h Q ⟨p, x, vs, rfl, pp, hp, hl, hz, hr, x0, q⟩
  rw [st_next_value]; unfold t_next_value
  walk_at "D"
  exact ⟨p, x, vs, rfl, pp, hp, hl, hz, hr, x0, h, .refl _, q⟩
theorem p_values_ahead : ∀ ds h Q, sp_values_ahead ds h Q → t_values_ahead (endD Q) (startD N_values_ahead ds) h := by
  rintro _ h Q ⟨p, v, rs, cs, rfl, pp, hp, p5, ok, q⟩
  rw [st_values_ahead]; unfold t_values_ahead
  walk_at "D"
  refine ⟨le_size (by decide), fun a ha => ?_⟩
  refine for_mk (its := zipD (TL rs) (IL cs)) (stay := fun _ => True) (fun R r => zip_tt rfl rfl r) (fun i σ h' => i ≤ rs.length ∧ h' = updD h a (.lst ((IL (ahL p v rs cs)).take (i + 1))) ∧ ∃ o5 o6 : Option D, σ = [some (.int p), some (.int v), some (.tup (TL rs)), some (.tup (IL cs)), some (.ref a), o5, o6]) ⟨by omega, ?_, _, _, rfl⟩ (fun _ _ _ _ => trivial) ?_ ?_
  · congr 2
    simp [ahL, List.range_succ_eq_map, ahV]
  · rintro i d σ h1 hd ⟨_, rfl, o5, o6, rfl⟩
    obtain ⟨x, y, hx, hy, rfl⟩ := zipD_some hd
    obtain ⟨hi, rfl⟩ := TL_some hx
    obtain ⟨c, hc, rfl⟩ := IL_get hy
    have ec : cs.getD i 0 = c := by simp [List.getD, hc]
    obtain ⟨r1, r2, r3⟩ := ok.rd hi
    have c1 := ok.ch hi
    walk_at "D"
    refine ⟨isLst_ref updD_same, p, c, rs.getD i [], rfl, pp, hp, by omega, by omega, r3, by omega, ?_⟩
    have ll := ok.2.1
    have l0 := ok.1
    refine append_ref updD_same (lt_size (by simp; have := ahL_len p v rs cs; omega)) ⟨by omega, ?_, _, _, rfl⟩
    rw [updD_updD, take_next (ahL_get (i := i + 1) (by omega))]
    simp only [ahV, ec]
  · rintro σ h1 ⟨_, rfl, o5, o6, rfl⟩
    have e : (zipD (TL rs) (IL cs)).length = rs.length := by rw [zipD_len, List.length_map, List.length_map, ok.1]; simp
    rw [e, List.take_of_length_le (by rw [List.length_map, ahL_len]; exact Nat.le_refl _)]
    walk_at "D"
    exact ⟨_, .refl _, q a ha⟩
theorem fault_at {p v : Int} {rs : List (List Int)} {cs : List Int} {i : Nat} (hi : i < rs.length) (hk : ∀ k < i, opA p v rs cs k = true) (hn : opA p v rs cs i = false) : faultV p v rs cs = .int (i : Nat) := by
  have : (List.range rs.length).find? (fun i => !opA p v rs cs i) = some i := by
    rw [List.find?_range_eq_some]
    exact ⟨by simp [hn], by simpa using hi, fun j hj => by simp [hk j hj]⟩
  unfold faultV
  rw [this]
theorem fault_none {p v : Int} {rs : List (List Int)} {cs : List Int} (hk : ∀ k < rs.length, opA p v rs cs k = true) : faultV p v rs cs = .non := by
  have : (List.range rs.length).find? (fun i => !opA p v rs cs i) = none := by
    rw [List.find?_eq_none]
    intro x hx
    simp [hk x (List.mem_range.mp hx)]
  unfold faultV
  rw [this]
theorem p__law_some : ∀ ds h Q, sp__law_some ds h Q → t__law_some (endD Q) (startD N__law_some ds) h := by
  rintro _ h Q ⟨b, a, ts, rfl, hb, ha, hne, l1, l2, q⟩
  rw [st__law_some]; unfold t__law_some
  walk_at "D"
  refine len_ref ha ⟨b, ts.length, rfl, hb, by omega, by omega, fun v o v0 v1 hb' hc => ?_⟩
  have hv : v.toNat < ts.length := by omega
  refine ix_ref ((updD_ne hne).trans ha) v0 (List.getElem?_eq_getElem hv) ⟨_, .refl _, q _ _ (List.getElem_mem hv) hb' hc⟩

theorem p_round_fault : ∀ ds h Q, sp_round_fault ds h Q → t_round_fault (endD Q) (startD N_round_fault ds) h := by
  rintro _ h Q ⟨p, v, rs, cs, rfl, pp, hp, p5, ok, q⟩
  rw [st_round_fault]; unfold t_round_fault
  walk_at "D"
  refine for_dep (fun its h1 stay => its = enumD 0 (zipD (IL (ahL p v rs cs)) (TL rs)) ∧ Sub h h1 ∧ stay h1) (fun R r => ?_) ?_
  · simp only [dEnumZ]
    walk_at "D"
    refine ⟨p, v, rs, cs, rfl, pp, hp, p5, ok, fun a ha => ?_⟩
    simp only [srcD, updD_same]
    exact r _ _ _ ⟨rfl, sub_new ha, updD_same, trivial⟩
  rintro its h1 stay ⟨rfl, hs, hst⟩
  refine for_mk (its := enumD 0 (zipD (IL (ahL p v rs cs)) (TL rs))) (h1 := h1) (stay := stay) (fun R r => r) (fun i σ h' => h' = h1 ∧ (∀ k < i, opA p v rs cs k = true) ∧ ∃ o4 o5 o6 : Option D, σ = [some (.int p), some (.int v), some (.tup (TL rs)), some (.tup (IL cs)), o4, o5, o6]) ⟨rfl, fun k hk => absurd hk (Nat.not_lt_zero k), _, _, _, rfl⟩ (fun i σ h q => by rw [q.1]; exact hst) ?_ ?_
  · rintro i d σ h' hd ⟨rfl, hop, o4, o5, o6, rfl⟩
    obtain ⟨z, hz, rfl⟩ := enumD_some hd
    obtain ⟨x, y, hx, hy, rfl⟩ := zipD_some hz
    obtain ⟨hi, rfl⟩ := TL_some hy
    rw [ahL_get (i := i) (by omega)] at hx
    obtain rfl := Option.some.inj hx
    obtain ⟨r1, r2, r3⟩ := ok.rd hi
    walk_at "D"
    refine ⟨p, _, rs.getD i [], rfl, by omega, r1, ?_⟩
    cases ho : opn p (rs.getD i []) (ahV p v rs cs i)
    · walk_at "D"
      refine ⟨h, hs, ?_⟩
      rw [fault_at hi hop ho] at q; exact q
    · walk_at "D"
      refine ⟨fun k hk => ?_, _, _, _, rfl⟩
      by_cases e : k = i
      · subst e; exact ho
      · exact hop k (by omega)
  · rintro σ h' ⟨rfl, hop, o4, o5, o6, rfl⟩
    have e : (enumD 0 (zipD (IL (ahL p v rs cs)) (TL rs))).length = rs.length := by rw [enumD_len, zipD_len, List.length_map, List.length_map, ahL_len]; omega
    rw [e] at hop
    walk_at "D"
    rw [fault_none hop] at q
    exact ⟨h, hs, q⟩
theorem p_last_value : ∀ ds h Q, sp_last_value ds h Q → t_last_value (endD Q) (startD N_last_value ds) h := by
  rintro _ h Q ⟨p, v, rs, cs, rfl, pp, hp, p5, ok, q⟩
  rw [st_last_value]; unfold t_last_value
  walk_at "D"
  refine ⟨p, v, rs, cs, rfl, pp, hp, p5, ok, fun a ha => ?_⟩
  rw [ahL_last]
  exact ix_last_ref updD_same ⟨h, sub_new ha, q⟩
theorem enumD_range (f : Nat → D) (n : Nat) : enumD 0 ((List.range n).map f) = (List.range n).map fun i => D.tup [.int (i : Nat), f i] := by
  apply List.ext_getElem?
  intro j
  by_cases hj : j < n
  · rw [enumD_get (x := f j) (by simp [hj])]
    simp [hj]
  · rw [List.getElem?_eq_none (by rw [enumD_len]; simp; omega), List.getElem?_eq_none (by simp; omega)]
/-- a comprehension with a test -/
theorem lc_filt {ti : DTI} {g : DTG} {tt : DTT} {te : DTE} {vs : List Nat} {σ : DS} {h h1 : DH} {Q : List D → DH → Prop} (n : Nat) (f : Nat → Bool) (hi : ∀ R : List D → (DH → Prop) → DH → Prop, R (rngD 0 n) (fun _ => True) h1 → ti σ h R) (hz : n ≤ 16777216)
    (turn : ∀ (i : Nat) (Qt : DK) (Qf : DH → Prop), i < n → (f i = true → Qt (.int (i : Nat)) h1) → (f i = false → Qf h1) → g (.int (i : Nat)) (dwipe σ vs) h1 fun σ2 h2 => tt σ2 h2 fun b h3 => if b = true then te σ2 h3 Qt else Qf h3) (done : Q (((List.range n).filter f).map fun i : Nat => D.int (i : Nat)) h1) : dLc ti g tt te vs σ h Q := by
  refine lc_mk (its := rngD 0 n) (stay := fun _ => True) hi (fun i acc h => h = h1 ∧ i ≤ n ∧ acc = ((List.range i).filter f).map fun i : Nat => D.int (i : Nat)) ⟨rfl, Nat.zero_le _, rfl⟩ (fun _ _ _ _ => trivial) ?_ ?_
  · rintro i d acc _ hd ⟨rfl, _, rfl⟩
    obtain ⟨hi, rfl⟩ := rng_some hd
    rw [Int.zero_add]
    have hlen : (((List.range i).filter f).map fun i : Nat => D.int (i : Nat)).length ≤ i := by
      rw [List.length_map]
      exact Nat.le_trans (List.length_filter_le _ _) (by simp)
    refine turn i _ _ hi (fun hf => ⟨lt_size (by omega), rfl, hi, ?_⟩) fun hf => ⟨rfl, hi, ?_⟩
    · rw [List.range_succ, List.filter_append, List.map_append]
      simp [hf]
    · rw [List.range_succ, List.filter_append, List.map_append]
      simp [hf]
  · rintro acc _ ⟨rfl, _, rfl⟩
    rw [rngD_len]
    exact done
theorem rNeU_nil {a b : Addr} {ns : List Int} {h : DH} {Q : DK} (e1 : h a = some (.lst (IL ns))) (e2 : h b = some (.lst [])) (q : Q (.bl (!ns.isEmpty)) h) : rNeU (.ref a) (.ref b) h Q := by
  cases ns with
  | nil => exact rNeU_lists (ns := []) e1 e2 q
  | cons n ns =>
    unfold rNeU
    rw [pyD_ref 10 e1, pyD_ref (ns := []) 10 e2]
    exact ⟨shaped_list _, shaped_list _, q⟩
theorem p_missed : ∀ ds h Q, sp_missed ds h Q → t_missed (endD Q) (startD N_missed ds) h := by
  rintro _ h Q ⟨p, v, w, ts, rs, cs, rfl, pp, hp, p5, ok, ht, q⟩
  have ll := ok.2.1
  have l0 := ok.1
  have cr := ok.2.2.1
  rw [st_missed]; unfold t_missed
  walk_at "D"
  refine ⟨p, v, rs, cs, rfl, pp, hp, p5, ok, fun a ha => ?_⟩
  have s1 := sub_new (o := .lst (IL (ahL p v rs cs))) ha
  have hA := updD_same (h := h) (a := a) (o := .lst (IL (ahL p v rs cs)))
  generalize updD h a _ = h1 at s1 hA ⊢
  refine lc_of (h1 := h1) (stay := fun h' => h' a = some (.lst (IL (ahL p v rs cs)))) (List.range (rs.length + 1)) (fun i => .tup [.int (i : Nat), .int (ahV p v rs cs i)]) (fun i => .bl (rtB p w ts v rs cs i)) (fun R r => ?_) hA (by simp; omega) ?_ ?_
  · have e : enumD 0 (IL (ahL p v rs cs)) = (List.range (rs.length + 1)).map fun i => D.tup [.int (i : Nat), .int (ahV p v rs cs i)] := by
      rw [← enumD_range]; simp [ahL, Function.comp_def]
    rw [← e] at r
    simpa [dEnum, dCons, dVar, dNil, srcD, hA] using r
  · intro i Q hi q
    have hi := List.mem_range.mp hi
    walk_at "D"
    rw [cut_lo _ _ (by simp; omega), ← List.map_take]
    exact ⟨p, w, ts, cs.take i, cs.length - i, rfl, pp, p5, fun y hy => cr y (List.mem_of_mem_take hy), by simp; omega, tcast ht (by congr 1; simp; omega), by show rEqU _ _ _ _; rw [rEqU_int]; exact q⟩
  intro b hb
  have s2 := sub_new (o := .lst ((List.range (rs.length + 1)).map fun i => D.bl (rtB p w ts v rs cs i))) hb
  have hB := updD_same (h := h1) (a := b) (o := .lst ((List.range (rs.length + 1)).map fun i => D.bl (rtB p w ts v rs cs i)))
  generalize updD h1 b _ = h2 at s2 hB ⊢
  have gB : ∀ i : Nat, i ≤ rs.length → ((List.range (rs.length + 1)).map fun i => D.bl (rtB p w ts v rs cs i))[i]? = some (.bl (rtB p w ts v rs cs i)) := fun i hi => by simp [show i < rs.length + 1 by omega]
  try walk_at "D"
  refine lc_filt rs.length (fun i => !rtB p w ts v rs cs i && rtB p w ts v rs cs (i + 1)) (h1 := h2) (fun R r => rngN (fun Q q => by walk_at "D"; rw [List.length_map]; exact q) (by omega) r) (by omega) ?_ ?_
  · intro i Qt Qf hi qt qf
    walk_at "D"
    refine ix_ref hB (by omega) (gB i (by omega)) ?_
    cases h1 : rtB p w ts v rs cs i
    · walk_at "D"
      refine ix_ref hB (by omega) (gB (i + 1) (by omega)) ?_
      cases h2 : rtB p w ts v rs cs (i + 1)
      · walk_at "D"; exact qf (by simp [h1, h2])
      · walk_at "D"; exact qt (by simp [h1, h2])
    · walk_at "D"; exact qf (by simp [h1])
  intro c hc
  have s3 := sub_new (o := .lst ((missL p w ts v rs cs).map fun i : Nat => D.int (i : Nat))) hc
  have hC : updD h2 c (.lst ((missL p w ts v rs cs).map fun i : Nat => D.int (i : Nat))) c = some (.lst (IL ((missL p w ts v rs cs).map fun i : Nat => (i : Int)))) := by rw [updD_same]; simp [Function.comp_def]
  have em : ((List.range rs.length).filter fun i => !rtB p w ts v rs cs i && rtB p w ts v rs cs (i + 1)) = missL p w ts v rs cs := rfl
  rw [em]
  generalize updD h2 c _ = h3 at s3 hC ⊢
  try walk_at "D"
  refine ⟨le_size (by decide), fun d hd => ?_⟩
  refine rNeU_nil (keeps_new hd _ _ hC) updD_same ?_
  have hs : Sub h (updD h3 d (.lst [])) := fun b o e => keeps_new hd _ _ (s3 _ _ (s2 _ _ (s1 _ _ e)))
  unfold missV at q
  cases hm : missL p w ts v rs cs with
  | nil =>
    rw [hm] at q
    simp only [List.map_nil, List.isEmpty_nil, Bool.not_true, Bool.false_eq_true, ↓reduceIte]
    exact ⟨h, hs, q⟩
  | cons i l =>
    rw [hm] at q hC
    simp only [List.map_cons, List.isEmpty_cons, Bool.not_false, ↓reduceIte]
    exact ix_ref (i := 0) (keeps_new hd _ _ hC) (by decide) rfl ⟨h, hs, q⟩

theorem p__law_values : ∀ ds h Q, sp__law_values ds h Q → t__law_values (endD Q) (startD N__law_values ds) h := by
  rintro _ h Q ⟨p, v, rs, cs, rfl, pp, ok, q⟩
  have p2 := pp.2
  rw [st__law_values]; unfold t__law_values
  walk_at "D"
  refine ⟨le_size (by decide), fun a ha => ?_⟩
  refine for_mk (its := zipD (TL rs) (IL cs)) (stay := fun _ => True) (fun R r => zip_tt rfl rfl r) (fun i σ h' => i ≤ rs.length ∧ h' = updD h a (.lst ((IL (ahL p v rs cs)).take (i + 1))) ∧ ∃ o5 o6 : Option D, σ = [some (.int p), some (.int v), some (.tup (TL rs)), some (.tup (IL cs)), some (.ref a), o5, o6]) ⟨by omega, ?_, _, _, rfl⟩ (fun _ _ _ _ => trivial) ?_ ?_
  · congr 2
    simp [ahL, List.range_succ_eq_map, ahV]
  · rintro i d σ h1 hd ⟨_, rfl, o5, o6, rfl⟩
    obtain ⟨x, y, hx, hy, rfl⟩ := zipD_some hd
    obtain ⟨hi, rfl⟩ := TL_some hx
    obtain ⟨c, hc, rfl⟩ := IL_get hy
    have ec : cs.getD i 0 = c := by simp [List.getD, hc]
    obtain ⟨r1, r2, r3⟩ := ok.rd hi
    have c1 := ok.ch hi
    walk_at "D"
    refine ⟨isLst_ref updD_same, p, c, rs.getD i [], _, rfl, .inl rfl, pp, by omega, r3, by omega, by omega, ?_⟩
    have ll := ok.2.1
    have l0 := ok.1
    refine append_ref updD_same (lt_size (by simp; have := ahL_len p v rs cs; omega)) ⟨by omega, ?_, _, _, rfl⟩
    rw [updD_updD, take_next (ahL_get (i := i + 1) (by omega))]
    simp only [ahV, ec]
  · rintro σ h1 ⟨_, rfl, o5, o6, rfl⟩
    have e : (zipD (TL rs) (IL cs)).length = rs.length := by rw [zipD_len, List.length_map, List.length_map, ok.1]; simp
    rw [e, List.take_of_length_le (by rw [List.length_map, ahL_len]; exact Nat.le_refl _)]
    walk_at "D"
    exact ⟨_, .refl _, q a ha⟩
theorem p__law_first_fault : ∀ ds h Q, sp__law_first_fault ds h Q → t__law_first_fault (endD Q) (startD N__law_first_fault ds) h := by
  rintro _ h Q ⟨p, v, rs, cs, a, rfl, hA, p1, ok, q⟩
  rw [st__law_first_fault]; unfold t__law_first_fault
  walk_at "D"
  refine for_mk (its := enumD 0 (TL rs)) (h1 := h) (stay := fun _ => True) (fun R r => enum1 rfl r) (fun i σ h' => h' = h ∧ (∀ k < i, opA p v rs cs k = true) ∧ ∃ o3 o4 : Option D, σ = [some (.int p), some (.ref a), some (.tup (TL rs)), o3, o4]) ⟨rfl, fun k hk => absurd hk (Nat.not_lt_zero k), _, _, rfl⟩ (fun _ _ _ _ => trivial) ?_ ?_
  · rintro i d σ h' hd ⟨rfl, hop, o3, o4, rfl⟩
    obtain ⟨y, hy, rfl⟩ := enumD_some hd
    obtain ⟨hi, rfl⟩ := TL_some hy
    obtain ⟨r1, r2, r3⟩ := ok.rd hi
    walk_at "D"
    refine ix_at (i := 0) (getD_some (by omega)) (ix_at (i := 1) (getD_some (by omega)) ?_)
    walk_at "D"
    refine ix_ref hA (by omega) (ahL_get (i := i) (by omega)) ?_
    walk_at "D"
    refine ⟨by omega, ?_⟩
    have e : (((rs.getD i []).getD 0 0 + (rs.getD i []).getD 1 0 - ahV p v rs cs i) % p == 0) = opA p v rs cs i := rfl
    rw [e]
    cases ho : opA p v rs cs i
    · walk_at "D"
      rw [fault_at hi hop ho] at q
      exact ⟨h', .refl _, q⟩
    · walk_at "D"
      refine ⟨fun k hk => ?_, _, _, rfl⟩
      by_cases e : k = i
      · subst e; exact ho
      · exact hop k (by omega)
  · rintro σ h' ⟨rfl, hop, o3, o4, rfl⟩
    rw [enumD_len, List.length_map] at hop
    walk_at "D"
    rw [fault_none hop] at q
    exact ⟨h', .refl _, q⟩
theorem p__law_first_missed : ∀ ds h Q, sp__law_first_missed ds h Q → t__law_first_missed (endD Q) (startD N__law_first_missed ds) h := by
  rintro _ h Q ⟨p, v, w, ts, rs, cs, a, rfl, hA, pp, p5, ok, ht, q⟩
  have ll := ok.2.1
  have l0 := ok.1
  have cr := ok.2.2.1
  have la := ahL_len p v rs cs
  rw [st__law_first_missed]; unfold t__law_first_missed
  walk_at "D"
  refine lc_rng (rs.length + 1) (h1 := h) (fun i => .bl (rtB p w ts v rs cs i)) (fun R r => rngN (fun Q q => ?_) (by omega) r) (by omega) ?_ ?_
  · walk_at "D"
    rw [rLen_ref hA, List.length_map, la]; exact q
  · intro i Q hi q
    walk_at "D"
    refine ix_ref hA (by omega) (ahL_get (i := i) (by omega)) ?_
    rw [cut_lo _ _ (by simp; omega), ← List.map_take]
    exact ⟨p, w, ts, cs.take i, cs.length - i, rfl, pp, p5, fun y hy => cr y (List.mem_of_mem_take hy), by simp; omega, tcast ht (by congr 1; simp; omega), by show rEqU _ _ _ _; rw [rEqU_int]; exact q⟩
  intro b hb
  have s2 := sub_new (o := .lst ((List.range (rs.length + 1)).map fun i => D.bl (rtB p w ts v rs cs i))) hb
  have hB := updD_same (h := h) (a := b) (o := .lst ((List.range (rs.length + 1)).map fun i => D.bl (rtB p w ts v rs cs i)))
  have hA2 := s2 _ _ hA
  generalize updD h b _ = h2 at s2 hB hA2 ⊢
  have gB : ∀ i : Nat, i ≤ rs.length → ((List.range (rs.length + 1)).map fun i => D.bl (rtB p w ts v rs cs i))[i]? = some (.bl (rtB p w ts v rs cs i)) := fun i hi => by simp [show i < rs.length + 1 by omega]
  try walk_at "D"
  refine lc_filt rs.length (fun i => !rtB p w ts v rs cs i && rtB p w ts v rs cs (i + 1)) (h1 := h2) (fun R r => rngN (fun Q q => ?_) (by omega) r) (by omega) ?_ ?_
  · walk_at "D"
    rw [rLen_ref hA2, List.length_map, la]
    walk_at "D"
    rw [show ((rs.length + 1 : Nat) : Int) - 1 = (rs.length : Nat) by omega]
    exact q
  · intro i Qt Qf hi qt qf
    walk_at "D"
    refine ix_ref hB (by omega) (gB i (by omega)) ?_
    cases h1 : rtB p w ts v rs cs i
    · walk_at "D"
      refine ix_ref hB (by omega) (gB (i + 1) (by omega)) ?_
      cases h2 : rtB p w ts v rs cs (i + 1)
      · walk_at "D"; exact qf (by simp [h1, h2])
      · walk_at "D"; exact qt (by simp [h1, h2])
    · walk_at "D"; exact qf (by simp [h1])
  intro c hc
  have s3 := sub_new (o := .lst ((missL p w ts v rs cs).map fun i : Nat => D.int (i : Nat))) hc
  have hC : updD h2 c (.lst ((missL p w ts v rs cs).map fun i : Nat => D.int (i : Nat))) c = some (.lst (IL ((missL p w ts v rs cs).map fun i : Nat => (i : Int)))) := by rw [updD_same]; simp [Function.comp_def]
  have em : ((List.range rs.length).filter fun i => !rtB p w ts v rs cs i && rtB p w ts v rs cs (i + 1)) = missL p w ts v rs cs := rfl
  rw [em]
  generalize updD h2 c _ = h3 at s3 hC ⊢
  try walk_at "D"
  refine ⟨le_size (by decide), fun d hd => ?_⟩
  refine rNeU_nil (keeps_new hd _ _ hC) updD_same ?_
  have hs : Sub h (updD h3 d (.lst [])) := fun b o e => keeps_new hd _ _ (s3 _ _ (s2 _ _ e))
  unfold missV at q
  cases hm : missL p w ts v rs cs with
  | nil =>
    rw [hm] at q
    simp only [List.map_nil, List.isEmpty_nil, Bool.not_true, Bool.false_eq_true, ↓reduceIte]
    exact ⟨h, hs, q⟩
  | cons i l =>
    rw [hm] at q hC
    simp only [List.map_cons, List.isEmpty_cons, Bool.not_false, ↓reduceIte]
    exact ix_ref (i := 0) (keeps_new hd _ _ hC) (by decide) rfl ⟨h, hs, q⟩

def dueR (p : Int) (w : Wd) (ts : List (List Int)) (ch : List Int) : List Int := (List.range (w.deg + 1)).map fun x : Nat => restV p w ts (ch ++ [(x : Int)])
theorem ite_twoA {c : Prop} [Decidable c] {A : Prop} {K : Addr → DH → Prop} {t : Addr} {h : DH} (P : Addr → DH → Prop) (hP : P t h) (a : (∀ t' h', P t' h' → K t' h') → c → A) (k : ∀ t' h', P t' h' → K t' h') : if c then A else K t h := by
  split
  · next hc => exact a k hc
  · exact k t h hP
theorem rng_snoc {p x : Int} {ch : List Int} (h : Rng p ch) (x0 : 0 ≤ x) (x1 : x < p) : Rng p (ch ++ [x]) := by
  intro y hy
  rcases List.mem_append.mp hy with hy | hy
  · exact h y hy
  · obtain rfl := List.mem_singleton.mp hy; exact ⟨x0, x1⟩
theorem rng_set {p x : Int} {ch : List Int} {i : Nat} (h : Rng p ch) (x0 : 0 ≤ x) (x1 : x < p) : Rng p (ch.set i x) := by
  intro y hy
  rcases List.mem_or_eq_of_mem_set hy with hy | rfl
  · exact h y hy
  · exact ⟨x0, x1⟩
theorem p__law_false_rounds : ∀ ds h Q, sp__law_false_rounds ds h Q → t__law_false_rounds (endD Q) (startD N__law_false_rounds ds) h := by
  rintro _ h Q ⟨b, c, p, v, w, ts, n, rfl, hb, pp, p5, hn, ht, q⟩
  have p1 := pp.1
  have p2 := pp.2
  have p0 : 0 < p := by omega
  have d1 : 1 ≤ w.deg := by cases w <;> decide
  have d3 : w.deg ≤ 3 := by cases w <;> decide
  rw [st__law_false_rounds]; unfold t__law_false_rounds
  walk_at "D"
  refine ⟨le_size (by decide), fun rA hrA => ⟨le_size (by decide), le_size (by decide), ?_⟩⟩
  obtain ⟨hrb, hrc⟩ := hb.ne hrA
  replace hb := hb.sub (sub_new (o := .lst []) hrA)
  have hR := updD_same (h := h) (a := rA) (o := .lst [])
  generalize updD h rA _ = h at hb hR ⊢
  refine for_mk (its := rngD 0 n) (h1 := h) (stay := fun _ => True) (fun R r => rngN (fun Q q => by walk_at "D"; exact q) (by omega) r) (fun i σ h => BagC h b c ∧ ∃ (rs : List (List Int)) (ch : List Int) (u : Int), h rA = some (.lst (TL rs)) ∧ rs.length = i ∧ ch.length = i ∧ i ≤ n ∧ Rng p ch ∧ (∀ r ∈ rs, r.length = w.deg + 1 ∧ Rng p r) ∧ ∃ (o10 o11 o12 o13 o14 o15 o16 : Option D), σ = [some (.ref b), some (.int p), some (.str (Str.ofString w.str)), some (.tup (TL ts)), some (.int v), some (.int (w.deg : Nat)), some (.int (n : Nat)), some (.ref rA), some (.tup (IL ch)), some (.int u), o10, o11, o12, o13, o14, o15, o16]) ⟨hb, [], [], v, hR, rfl, rfl, Nat.zero_le _, by intro x hx; simp at hx, by intro x hx; simp at hx, _, _, _, _, _, _, _, rfl⟩ (fun _ _ _ _ => trivial) ?_ ?_
  · rintro i d σ h hd ⟨hb, rs, ch, u, hR, lrs, lch, _, rch, rrs, o10, o11, o12, o13, o14, o15, o16, rfl⟩
    obtain ⟨hi, rfl⟩ := rng_some hd
    rw [Int.zero_add]
    walk_at "D"
    refine lc_rng (w.deg + 1) (h1 := h) (fun x => .int (restV p w ts (ch ++ [(x : Int)]))) (fun R r => rngN (fun Q q => by walk_at "D"; exact q) (by omega) r) (by omega) ?_ ?_
    · intro x Q hx q
      walk_at "D"
      try simp only [itemsD]
      have e : IL ch ++ [D.int (x : Nat)] = IL (ch ++ [(x : Int)]) := by simp
      rw [e]
      exact ⟨le_size (by decide), le_size (by simp; omega), p, w, ts, ch ++ [(x : Int)], n - i - 1, rfl, pp, p5, rng_snoc rch (by omega) (by omega), by simp; omega, tcast ht (by congr 1; simp; omega), q⟩
    have edu : (List.range (w.deg + 1)).map (fun x : Nat => D.int (restV p w ts (ch ++ [(x : Int)]))) = IL (dueR p w ts ch) := by simp [dueR, Function.comp_def]
    rw [edu]
    have ldu : (dueR p w ts ch).length = w.deg + 1 := by simp [dueR]
    have rdu : Rng p (dueR p w ts ch) := by
      intro y hy
      obtain ⟨x, _, rfl⟩ := List.mem_map.mp hy
      exact whl_rng p0 _ _
    intro uA huA
    have hU := updD_same (h := h) (a := uA) (o := .lst (IL (dueR p w ts ch)))
    have hub := (hb.ne huA).1
    have s1 := sub_new (o := .lst (IL (dueR p w ts ch))) huA
    replace hb := hb.sub s1
    replace hR := s1 _ _ hR
    clear s1
    generalize updD h uA _ = h at hb hR hU ⊢
    try walk_at "D"
    refine ix_ref hU (by decide) (getD_some (i := 0) (by omega)) ?_
    try walk_at "D"
    refine ix_ref hU (by decide) (getD_some (i := 1) (by omega)) ?_
    try walk_at "D"
    refine ⟨by omega, ?_⟩
    obtain ⟨lk, hlk⟩ : ∃ lk : Int, (u - (dueR p w ts ch).getD 0 0 - (dueR p w ts ch).getD 1 0) % p = lk := ⟨_, rfl⟩
    rw [hlk]
    refine listOf_ref hU fun tA htA => ?_
    have hT := updD_same (h := h) (a := tA) (o := .lst (IL (dueR p w ts ch)))
    obtain ⟨htb, htc⟩ := hb.ne htA
    have htr : tA ≠ rA := by rintro rfl; rw [hR] at htA; cases htA
    have htu : tA ≠ uA := by rintro rfl; rw [hU] at htA; cases htA
    have s1 := sub_new (o := .lst (IL (dueR p w ts ch))) htA
    replace hb := hb.sub s1
    replace hR := s1 _ _ hR
    replace hU := s1 _ _ hU
    clear s1
    generalize updD h tA _ = h at hb hR hU hT ⊢
    try walk_at "D"
    refine ix_ref hT (by decide) (getD_some (i := 0) (by omega)) ?_
    try walk_at "D"
    have md := fun z => mod_rng p0 z
    refine ⟨by omega, set_ref hT (by decide) (by simp; omega) ?_⟩
    have es : (IL (dueR p w ts ch)).set (0 : Int).toNat (D.int (((dueR p w ts ch).getD 0 0 + lk) % p)) = IL ((dueR p w ts ch).set 0 (((dueR p w ts ch).getD 0 0 + lk) % p)) := by
      show (List.map D.int _).set _ (D.int _) = List.map D.int (List.set _ _ _)
      rw [List.map_set]; rfl
    rw [es]
    have hT2 := updD_same (h := h) (a := tA) (o := .lst (IL ((dueR p w ts ch).set 0 (((dueR p w ts ch).getD 0 0 + lk) % p))))
    replace hb := hb.upd (o := .lst (IL ((dueR p w ts ch).set 0 (((dueR p w ts ch).getD 0 0 + lk) % p)))) htb htc
    replace hR := (updD_ne (o := .lst (IL ((dueR p w ts ch).set 0 (((dueR p w ts ch).getD 0 0 + lk) % p)))) htr.symm).trans hR
    replace hU := (updD_ne (o := .lst (IL ((dueR p w ts ch).set 0 (((dueR p w ts ch).getD 0 0 + lk) % p)))) htu.symm).trans hU
    clear hT
    generalize updD h tA _ = h at hb hR hU hT2 ⊢
    have rt0 := rng_set (i := 0) rdu (md ((dueR p w ts ch).getD 0 0 + lk)).1 (md ((dueR p w ts ch).getD 0 0 + lk)).2
    have lt0 : ((dueR p w ts ch).set 0 (((dueR p w ts ch).getD 0 0 + lk) % p)).length = w.deg + 1 := by rw [List.length_set, ldu]
    generalize (dueR p w ts ch).set 0 (((dueR p w ts ch).getD 0 0 + lk) % p) = t0 at hT2 rt0 lt0
    try walk_at "D"
    refine ⟨b, 2, rfl, hb.ok, by decide, by decide, fun v2 o v0 v1 _ hbc => ?_⟩
    replace hb := hbc c hb
    clear hbc
    replace hR := (updD_ne (o := o) hrb).trans hR
    replace hU := (updD_ne (o := o) hub).trans hU
    replace hT2 := (updD_ne (o := o) htb).trans hT2
    generalize updD h b o = h at hb hR hU hT2 ⊢
    try walk_at "D"
    apply ite_twoA (t := tA) (h := h) (fun t h => BagC h b c ∧ h rA = some (.lst (TL rs)) ∧ h uA = some (.lst (IL (dueR p w ts ch))) ∧ t ≠ b ∧ t ≠ c ∧ t ≠ rA ∧ ∃ tl, h t = some (.lst (IL tl)) ∧ tl.length = w.deg + 1 ∧ Rng p tl) ⟨hb, hR, hU, htb, htc, htr, t0, hT2, lt0, rt0⟩
    · intro k _
      refine listOf_ref hU fun tA htA => ?_
      have hT := updD_same (h := h) (a := tA) (o := .lst (IL (dueR p w ts ch)))
      obtain ⟨htb, htc⟩ := hb.ne htA
      have htr : tA ≠ rA := by rintro rfl; rw [hR] at htA; cases htA
      have htu : tA ≠ uA := by rintro rfl; rw [hU] at htA; cases htA
      have s1 := sub_new (o := .lst (IL (dueR p w ts ch))) htA
      replace hb := hb.sub s1
      replace hR := s1 _ _ hR
      replace hU := s1 _ _ hU
      clear s1
      generalize updD h tA _ = h at hb hR hU hT ⊢
      try walk_at "D"
      refine ix_ref hT (by decide) (getD_some (i := 1) (by omega)) ?_
      try walk_at "D"
      refine ⟨by omega, set_ref hT (by decide) (by simp; omega) ?_⟩
      have es : (IL (dueR p w ts ch)).set (1 : Int).toNat (D.int (((dueR p w ts ch).getD 1 0 + lk) % p)) = IL ((dueR p w ts ch).set 1 (((dueR p w ts ch).getD 1 0 + lk) % p)) := by
        show (List.map D.int _).set _ (D.int _) = List.map D.int (List.set _ _ _)
        rw [List.map_set]; rfl
      rw [es]
      refine k _ _ ⟨hb.upd htb htc, (updD_ne htr.symm).trans hR, (updD_ne htu.symm).trans hU, htb, htc, htr, _, updD_same, by rw [List.length_set, ldu], rng_set rdu (md _).1 (md _).2⟩
    rintro t h ⟨hb, hR, hU, htb, htc, htr, tl, hT, ltl, rtl⟩
    try walk_at "D"
    obtain ⟨N, hN, N40, Np⟩ : ∃ N : Nat, (if 40 < p then 40 else p) = (N : Int) ∧ N ≤ 40 ∧ (N : Int) ≤ p := by
      by_cases h40 : 40 < p
      · exact ⟨40, by rw [if_pos h40]; rfl, by omega, by omega⟩
      · exact ⟨p.toNat, by rw [if_neg h40]; omega, by omega, by omega⟩
    refine lc_filt N (fun x => Pl.lag p tl (x : Int) % p == Pl.lag p (dueR p w ts ch) (x : Int) % p) (h1 := h) (fun R r => rngN (fun Q q => ?_) (by omega) r) (by omega) ?_ ?_
    · walk_at "D"
      rw [hN]; exact q
    · intro x Qt Qf hx qt qf
      walk_at "D"
      refine ⟨p, x, tl, _, rfl, .inr ⟨t, rfl, hT⟩, pp, by omega, rtl, by omega, by omega, ?_⟩
      refine ⟨p, x, dueR p w ts ch, _, rfl, .inr ⟨uA, rfl, hU⟩, pp, by omega, rdu, by omega, by omega, ?_⟩
      try walk_at "D"
      cases hc : (Pl.lag p tl (x : Int) % p == Pl.lag p (dueR p w ts ch) (x : Int) % p)
      · rw [if_neg Bool.false_ne_true]; exact qf hc
      · rw [if_pos rfl]; exact qt hc
    intro mA hmA
    obtain ⟨ms, hms, hml⟩ : ∃ ms : List Nat, ((List.range N).filter fun x : Nat => Pl.lag p tl (x : Int) % p == Pl.lag p (dueR p w ts ch) (x : Int) % p) = ms ∧ ∀ m ∈ ms, m < N := ⟨_, rfl, fun m hm => by
      have := (List.mem_filter.mp hm).1
      simpa using this⟩
    have hmlen : ms.length ≤ N := by
      rw [← hms]
      exact Nat.le_trans (List.length_filter_le _ _) (by simp)
    rw [hms]
    have hmb := (hb.ne hmA).1
    have hM : updD h mA (.lst (ms.map fun i : Nat => D.int (i : Nat))) mA = some (.lst (IL (ms.map fun i : Nat => (i : Int)))) := by rw [updD_same]; simp [Function.comp_def]
    have s1 := sub_new (o := .lst (ms.map fun i : Nat => D.int (i : Nat))) hmA
    replace hb := hb.sub s1
    replace hR := s1 _ _ hR
    replace hT := s1 _ _ hT
    clear s1 hU
    generalize updD h mA _ = h at hb hR hT hM ⊢
    try walk_at "D"
    refine ⟨le_size (by decide), fun nA hnA => ?_⟩
    have hNl := updD_same (h := h) (a := nA) (o := .lst [])
    have s1 := sub_new (o := .lst []) hnA
    replace hb := hb.sub s1
    replace hR := s1 _ _ hR
    replace hT := s1 _ _ hT
    replace hM := s1 _ _ hM
    clear s1
    generalize updD h nA _ = h at hb hR hT hM hNl ⊢
    refine rNeU_nil hM hNl ?_
    cases ms with
    | nil =>
      simp only [List.map_nil, List.isEmpty_nil, Bool.not_true, Bool.false_eq_true, ↓reduceIte]
      refine ⟨b, p, rfl, hb.ok, by omega, by omega, fun x o x0 x1 _ hbc => ?_⟩
      replace hb := hbc c hb
      replace hR := (updD_ne (o := o) hrb).trans hR
      replace hT := (updD_ne (o := o) htb).trans hT
      generalize updD h b o = h at hb hR hT ⊢
      try walk_at "D"
      refine ⟨isLst_ref hR, tupleOf_ref hT (append_ref hR (lt_size (by simp; omega)) ?_)⟩
      try walk_at "D"
      try simp only [itemsD]
      have e : IL ch ++ [D.int x] = IL (ch ++ [x]) := by simp
      rw [e]
      refine ⟨le_size (by decide), le_size (by simp; omega), ?_⟩
      refine ⟨p, x, tl, .ref t, rfl, .inr ⟨t, rfl, (updD_ne htr).trans hT⟩, pp, by omega, rtl, x0, by omega, ?_⟩
      refine ⟨le_size (by decide), hb.upd hrb hrc, rs ++ [tl], ch ++ [x], _, ?_, by simp [lrs], by simp [lch], by omega, rng_snoc rch x0 x1, ?_, _, _, _, _, _, _, _, rfl⟩
      · rw [updD_same]; simp
      · intro r hr
        rcases List.mem_append.mp hr with hr | hr
        · exact rrs r hr
        · obtain rfl := List.mem_singleton.mp hr; exact ⟨ltl, rtl⟩
    | cons m ms =>
      simp only [List.map_cons, List.isEmpty_cons, Bool.not_false, ↓reduceIte]
      refine ⟨b, 3, rfl, hb.ok, by decide, by decide, fun v3 o v30 v31 _ hbc => ?_⟩
      replace hb := hbc c hb
      replace hR := (updD_ne (o := o) hrb).trans hR
      replace hT := (updD_ne (o := o) htb).trans hT
      replace hM := (updD_ne (o := o) hmb).trans hM
      clear hbc
      generalize updD h b o = h at hb hR hT hM ⊢
      try walk_at "D"
      by_cases h3 : v3 = 0
      · rw [if_pos (by simp [h3])]
        refine ⟨b, mA, _, rfl, hb.ok, hM, hmb, by simp, by simp at hmlen ⊢; omega, fun dd o hd _ hbc => ?_⟩
        replace hb := hbc c hb
        replace hR := (updD_ne (o := o) hrb).trans hR
        replace hT := (updD_ne (o := o) htb).trans hT
        obtain ⟨x, rfl, x0, x1⟩ : ∃ x : Int, dd = .int x ∧ 0 ≤ x ∧ x < p := by
          obtain ⟨y, hy, rfl⟩ := List.mem_map.mp hd
          obtain ⟨m', hm', rfl⟩ := List.mem_map.mp hy
          have := hml m' hm'
          exact ⟨_, rfl, by omega, by omega⟩
        generalize updD h b o = h at hb hR hT ⊢
        try walk_at "D"
        refine ⟨isLst_ref hR, tupleOf_ref hT (append_ref hR (lt_size (by simp; omega)) ?_)⟩
        try walk_at "D"
        try simp only [itemsD]
        have e : IL ch ++ [D.int x] = IL (ch ++ [x]) := by simp
        rw [e]
        refine ⟨le_size (by decide), le_size (by simp; omega), ?_⟩
        refine ⟨p, x, tl, .ref t, rfl, .inr ⟨t, rfl, (updD_ne htr).trans hT⟩, pp, by omega, rtl, x0, by omega, ?_⟩
        refine ⟨le_size (by decide), hb.upd hrb hrc, rs ++ [tl], ch ++ [x], _, ?_, by simp [lrs], by simp [lch], by omega, rng_snoc rch x0 x1, ?_, _, _, _, _, _, _, _, rfl⟩
        · rw [updD_same]; simp
        · intro r hr
          rcases List.mem_append.mp hr with hr | hr
          · exact rrs r hr
          · obtain rfl := List.mem_singleton.mp hr; exact ⟨ltl, rtl⟩
      · rw [if_neg (by simp [h3])]
        refine ⟨b, p, rfl, hb.ok, by omega, by omega, fun x o x0 x1 _ hbc => ?_⟩
        replace hb := hbc c hb
        replace hR := (updD_ne (o := o) hrb).trans hR
        replace hT := (updD_ne (o := o) htb).trans hT
        generalize updD h b o = h at hb hR hT ⊢
        try walk_at "D"
        refine ⟨isLst_ref hR, tupleOf_ref hT (append_ref hR (lt_size (by simp; omega)) ?_)⟩
        try walk_at "D"
        try simp only [itemsD]
        have e : IL ch ++ [D.int x] = IL (ch ++ [x]) := by simp
        rw [e]
        refine ⟨le_size (by decide), le_size (by simp; omega), ?_⟩
        refine ⟨p, x, tl, .ref t, rfl, .inr ⟨t, rfl, (updD_ne htr).trans hT⟩, pp, by omega, rtl, x0, by omega, ?_⟩
        refine ⟨le_size (by decide), hb.upd hrb hrc, rs ++ [tl], ch ++ [x], _, ?_, by simp [lrs], by simp [lch], by omega, rng_snoc rch x0 x1, ?_, _, _, _, _, _, _, _, rfl⟩
        · rw [updD_same]; simp
        · intro r hr
          rcases List.mem_append.mp hr with hr | hr
          · exact rrs r hr
          · obtain rfl := List.mem_singleton.mp hr; exact ⟨ltl, rtl⟩
  · rintro σ h ⟨hb, rs, ch, u, hR, lrs, lch, _, rch, rrs, o10, o11, o12, o13, o14, o15, o16, rfl⟩
    rw [rngD_len] at lrs lch
    walk_at "D"
    refine tupleOf_ref hR ⟨le_size (by decide), h, .refl _, ?_⟩
    refine q rs ch h lch ⟨by omega, by omega, rch, fun r hr => ?_⟩ (fun r hr => (rrs r hr).1) hb
    obtain ⟨l, g⟩ := rrs r hr
    exact ⟨by omega, by omega, g⟩

theorem alks_app {h : DH} : ∀ {xs ys us vs : List D} {m n : Nat}, Alks h xs ys m → Alks h us vs n → Alks h (xs ++ us) (ys ++ vs) (m + n)
  | [], _, _, _, _, _, a, b => by cases a; simpa using b
  | _ :: _, _, _, _, _, _, a, b => by
    cases a with
    | cons a c =>
      have := Alks.cons a (alks_app c b)
      rw [← Nat.add_assoc] at this
      exact this
theorem alks_map {α : Type} {h : DH} {f : α → D} {k : Nat} : ∀ {l : List α}, (∀ x ∈ l, Alk h (f x) (f x) k) → Alks h (l.map f) (l.map f) (k * l.length)
  | [], _ => .nil
  | x :: l, q => by
    have := Alks.cons (q x List.mem_cons_self) (alks_map (l := l) fun y hy => q y (List.mem_cons_of_mem _ hy))
    have e : k * (x :: l).length = k + k * l.length := by rw [List.length_cons, Nat.mul_succ]; omega
    rw [e]; exact this
def degKK : List (Key × D) := [(.inr "one", .int 1), (.inr "two", .int 2), (.inr "three", .int 3), (.inr "choice", .int 3)]
def manyK' : List (Key × D) := [(.inr "one", .int 1), (.inr "two", .int 2), (.inr "three", .int 3), (.inr "choice", .int 4)]
theorem ite_two {c : Prop} [Decidable c] {A : Prop} {K : DH → Prop} {h : DH} (P : DH → Prop) (hP : P h) (a : (∀ h', P h' → K h') → c → A) (k : ∀ h', P h' → K h') : if c then A else K h := by
  split
  · next hc => exact a k hc
  · exact k h hP
theorem ite_two4 {c : Prop} [Decidable c] {A : Prop} {K : Option D → Option D → Option D → List (List Int) → DH → Prop} {o1 o2 o3 : Option D} {rs : List (List Int)} {h : DH} (P : List (List Int) → DH → Prop) (hP : P rs h) (a : (∀ o1 o2 o3 rs h', P rs h' → K o1 o2 o3 rs h') → c → A) (k : ∀ o1 o2 o3 rs h', P rs h' → K o1 o2 o3 rs h') : if c then A else K o1 o2 o3 rs h := by
  split
  · next hc => exact a k hc
  · exact k _ _ _ _ h hP
theorem word_of {d : D} (h : d ∈ [D.str (Str.ofString "one"), .str (Str.ofString "two"), .str (Str.ofString "three"), .str (Str.ofString "choice")]) : ∃ w : Wd, d = .str (Str.ofString w.str) := by
  simp only [List.mem_cons, List.not_mem_nil, or_false] at h
  rcases h with rfl | rfl | rfl | rfl
  · exact ⟨.one, rfl⟩
  · exact ⟨.two, rfl⟩
  · exact ⟨.three, rfl⟩
  · exact ⟨.choice, rfl⟩
theorem fault_cases (p v : Int) (rs : List (List Int)) (cs : List Int) : faultV p v rs cs = .non ∨ ∃ i : Nat, faultV p v rs cs = .int i := by
  unfold faultV
  cases (List.range rs.length).find? (fun i => !opA p v rs cs i) with
  | none => exact .inl rfl
  | some i => exact .inr ⟨i, rfl⟩
theorem miss_cases (p : Int) (w : Wd) (ts : List (List Int)) (v : Int) (rs : List (List Int)) (cs : List Int) : (missV p w ts v rs cs = .non ∧ missL p w ts v rs cs = []) ∨ ∃ i : Nat, missV p w ts v rs cs = .int i := by
  unfold missV
  cases missL p w ts v rs cs with
  | nil => exact .inl ⟨rfl, rfl⟩
  | cons i l => exact .inr ⟨i, rfl⟩
theorem alk_fault (h : DH) (p v : Int) (rs : List (List Int)) (cs : List Int) : Alk h (faultV p v rs cs) (faultV p v rs cs) 1 := by
  rcases fault_cases p v rs cs with e | ⟨i, e⟩ <;> rw [e]
  · exact .non
  · exact .int _
theorem alk_miss (h : DH) (p : Int) (w : Wd) (ts : List (List Int)) (v : Int) (rs : List (List Int)) (cs : List Int) : Alk h (missV p w ts v rs cs) (missV p w ts v rs cs) 1 := by
  rcases miss_cases p w ts v rs cs with ⟨e, _⟩ | ⟨i, e⟩ <;> rw [e]
  · exact .non
  · exact .int _
theorem first_turn (f : Nat → Bool) : ∀ n, f 0 = false → f n = true → ∃ i < n, f i = false ∧ f (i + 1) = true
  | 0, a, b => by rw [a] at b; cases b
  | n + 1, a, b => by
    cases e : f n with
    | false => exact ⟨n, by omega, e, b⟩
    | true =>
      obtain ⟨i, hi, q⟩ := first_turn f n a e
      exact ⟨i, by omega, q⟩
theorem miss_some {p : Int} {w : Wd} {ts : List (List Int)} {v : Int} {rs : List (List Int)} {cs : List Int} (h0 : rtB p w ts v rs cs 0 = false) (hn : rtB p w ts v rs cs rs.length = true) : missL p w ts v rs cs ≠ [] := by
  obtain ⟨i, hi, a, b⟩ := first_turn _ _ h0 hn
  have : i ∈ missL p w ts v rs cs := List.mem_filter.mpr ⟨List.mem_range.mpr hi, by simp [a, b]⟩
  intro e
  rw [e] at this
  cases this
def honR (p : Int) (w : Wd) (ts : List (List Int)) (cs : List Int) : List (List Int) := (List.range cs.length).map fun i => dueV p w ts cs i
theorem honR_len (p : Int) (w : Wd) (ts : List (List Int)) (cs : List Int) : (honR p w ts cs).length = cs.length := by simp [honR]
theorem honR_get {p : Int} {w : Wd} {ts : List (List Int)} {cs : List Int} {i : Nat} (h : i < cs.length) : (honR p w ts cs).getD i [] = dueV p w ts cs i := by simp [honR, List.getD, h]
theorem dues_hon (p : Int) (w : Wd) (ts : List (List Int)) (cs : List Int) : duesD p w ts cs = TL (honR p w ts cs) := by simp [duesD, honR, Function.comp_def]
theorem hon_ok {p : Int} (p0 : 0 < p) {w : Wd} {ts : List (List Int)} {cs : List Int} (hl : cs.length ≤ 3) (hr : Rng p cs) : RdsOk p (honR p w ts cs) cs := by
  refine ⟨honR_len _ _ _ _, hl, hr, fun r hm => ?_⟩
  obtain ⟨i, _, rfl⟩ := List.mem_map.mp hm
  rw [dueV_len]
  have d1 : 1 ≤ w.deg := by cases w <;> decide
  have d3 : w.deg ≤ 3 := by cases w <;> decide
  exact ⟨by omega, by omega, valsN_rng p0 _ _ _⟩
theorem hon_ah {p : Int} (hp : Pl.Prm p) (p5 : 5 ≤ p) {w : Wd} {ts : List (List Int)} {cs : List Int} (ht : Tabs p w (2 ^ cs.length) ts) : ∀ i ≤ cs.length, ahV p (restV p w ts []) (honR p w ts cs) cs i = restV p w ts (cs.take i)
  | 0, _ => by rw [List.take_zero]; rfl
  | i + 1, hi => by
    have d3 : w.deg ≤ 3 := by cases w <;> decide
    have hi' : i < cs.length := hi
    have e : cs.getD i 0 = cs[i] := by simp [List.getD, hi']
    show Pl.lag p ((honR p w ts cs).getD i []) (cs.getD i 0) % p = _
    rw [honR_get hi', e, rest_next ht hi']
    exact lag_lin hp (tabs_at (by omega) ht hi') (by omega) _
theorem hon_op {p : Int} (hp : Pl.Prm p) (p5 : 5 ≤ p) {w : Wd} {ts : List (List Int)} {cs : List Int} (ht : Tabs p w (2 ^ cs.length) ts) {i : Nat} (hi : i < cs.length) : opA p (restV p w ts []) (honR p w ts cs) cs i = true := by
  have p0 : 0 < p := by omega
  have d1 : 1 ≤ w.deg := by cases w <;> decide
  unfold opA opn
  rw [hon_ah hp p5 ht i (by omega), honR_get hi, beq_iff_eq]
  have g0 : (dueV p w ts cs i).getD 0 0 = lin p w (2 ^ (cs.length - i - 1)) (fixT p ts (cs.take i)) ((0 : Nat) : Int) := by rw [List.getD_eq_getElem?_getD, dueV_get (by omega)]; rfl
  have g1 : (dueV p w ts cs i).getD 1 0 = lin p w (2 ^ (cs.length - i - 1)) (fixT p ts (cs.take i)) ((1 : Nat) : Int) := by rw [List.getD_eq_getElem?_getD, dueV_get (by omega)]; rfl
  rw [g0, g1]
  have rr := whl_rng p0 w (fixT p ts (cs.take i))
  refine Int.emod_eq_emod_iff_emod_sub_eq_zero.mp ?_
  show (lin p w _ _ 0 + lin p w _ _ 1) % p = _
  rw [lin_two p0 (tabs_at p0 ht hi)]
  exact (Int.emod_eq_of_lt rr.1 rr.2).symm
theorem hon_fault {p : Int} (hp : Pl.Prm p) (p5 : 5 ≤ p) {w : Wd} {ts : List (List Int)} {cs : List Int} (ht : Tabs p w (2 ^ cs.length) ts) : faultV p (restV p w ts []) (honR p w ts cs) cs = .non :=
  fault_none fun k hk => hon_op hp p5 ht (by rw [← honR_len p w ts cs]; exact hk)
theorem hon_last {p : Int} (hp : Pl.Prm p) (p5 : 5 ≤ p) {w : Wd} {ts : List (List Int)} {cs : List Int} (ht : Tabs p w (2 ^ cs.length) ts) : ahV p (restV p w ts []) (honR p w ts cs) cs (honR p w ts cs).length = restV p w ts cs := by
  rw [honR_len, hon_ah hp p5 ht _ (Nat.le_refl _), List.take_length]
theorem hon_miss {p : Int} (hp : Pl.Prm p) (p5 : 5 ≤ p) {w : Wd} {ts : List (List Int)} {cs : List Int} (ht : Tabs p w (2 ^ cs.length) ts) : missV p w ts (restV p w ts []) (honR p w ts cs) cs = .non := by
  have : missL p w ts (restV p w ts []) (honR p w ts cs) cs = [] := by
    unfold missL
    rw [List.filter_eq_nil_iff]
    intro i hi
    have hi := List.mem_range.mp hi
    rw [honR_len] at hi
    have : rtB p w ts (restV p w ts []) (honR p w ts cs) cs i = true := by
      unfold rtB
      rw [hon_ah hp p5 ht i (by omega)]; simp
    simp [this]
  unfold missV
  rw [this]
theorem ahL_drop (p v : Int) (rs : List (List Int)) (cs : List Int) : (IL (ahL p v rs cs)).drop 1 = (List.range rs.length).map fun i => D.int (ahV p v rs cs (i + 1)) := by
  simp [ahL, List.range_succ_eq_map, Function.comp_def]

theorem isN_t {x : D} {h : DH} {Q : DK} (e : x = .non) (q : Q (.bl true) h) : rIsN x .non h Q := by subst e; exact q
theorem isN_f {x : D} {i : Int} {h : DH} {Q : DK} (e : x = .int i) (q : Q (.bl false) h) : rIsN x .non h Q := by subst e; exact q
theorem p_law : ∀ ds h Q, spLaw0 ds h Q → t_law (endD Q) (startD N_law ds) h := by
  rintro _ h Q ⟨ns, rfl, hl, rfl, q⟩
  rw [st_law]; unfold t_law
  walk_at "D"
  refine ⟨ns, rfl, hl, fun b h1 hb => ?_⟩
  refine for_mk (its := rngD 0 6) (h1 := h1) (stay := fun _ => True) (fun R r => rng1 (n := 6) (h1 := h1) (fun Q q => by walk_at "D"; exact q) (by decide) (by decide) r) (fun i σ h => BagOk h b ∧ ∃ (o2 o3 o4 o5 o6 o7 o8 o9 o10 o11 o12 o13 o14 o15 o16 o17 o18 o19 o20 o21 o22 o23 o24 : Option D), σ = [some (.rol (IL ns)), some (.ref b), o2, o3, o4, o5, o6, o7, o8, o9, o10, o11, o12, o13, o14, o15, o16, o17, o18, o19, o20, o21, o22, o23, o24]) ⟨hb, _, _, _, _, _, _, _, _, _, _, _, _, _, _, _, _, _, _, _, _, _, _, _, rfl⟩ (fun _ _ _ _ => trivial) ?_ ?_
  · rintro i0 d σ h hd ⟨hb, o2, o3, o4, o5, o6, o7, o8, o9, o10, o11, o12, o13, o14, o15, o16, o17, o18, o19, o20, o21, o22, o23, o24, rfl⟩
    obtain ⟨hi0, rfl⟩ := rng_some hd
    try walk_at "D"
    refine ⟨le_size (by decide), fun a ha => ?_⟩
    refine ⟨b, a, _, rfl, hb.new ha, updD_same, hb.ne ha, by decide, by decide, fun d o hd hb _ => ?_⟩
    obtain ⟨p, rfl, pp, hp, p5, pM⟩ : ∃ p : Int, d = .int p ∧ Pp p ∧ Pl.Prm p ∧ 5 ≤ p ∧ p ≤ 1000003 := by
      simp only [List.mem_cons, List.not_mem_nil, or_false] at hd
      rcases hd with rfl | rfl | rfl | rfl
      · exact ⟨_, rfl, ⟨by decide, by decide⟩, Pl.prm5, by decide, by decide⟩
      · exact ⟨_, rfl, ⟨by decide, by decide⟩, Pl.prm7, by decide, by decide⟩
      · exact ⟨_, rfl, ⟨by decide, by decide⟩, Pl.prm_of 11 (by decide) (prime_sqrt 11 4 (by decide) (by decide) (by decide +kernel)), by decide, by decide⟩
      · exact ⟨_, rfl, ⟨by decide, by decide⟩, prmM, by decide, by decide⟩
    have p1 := pp.1
    have p2 := pp.2
    have p0 : 0 < p := by omega
    clear hd ha
    refine ⟨le_size (by decide), fun a ha => ?_⟩
    refine ⟨b, a, _, rfl, hb.new ha, updD_same, hb.ne ha, by decide, by decide, fun d o hd hb _ => ?_⟩
    obtain ⟨w, rfl⟩ := word_of hd
    clear hd ha
    refine ⟨b, 3, rfl, hb, by decide, by decide, fun v o v0 v1 hb _ => ?_⟩
    obtain ⟨n, hn⟩ : ∃ n : Nat, 1 + v = (n : Nat) := ⟨(1 + v).toNat, by omega⟩
    have hn1 : 1 ≤ n := by omega
    have hn3 : n ≤ 3 := by omega
    generalize updD _ b o = h at hb
    obtain ⟨c, hb⟩ := hb.c
    try walk_at "D"
    rw [hn]
    clear hn v0 v1
    refine ⟨le_size (by decide), ?_⟩
    simp only [dDisp, dPairs]
    try walk_at "D"
    rw [show keysD [(D.str (Str.ofString "one"), D.int 1), (D.str (Str.ofString "two"), D.int 2), (D.str (Str.ofString "three"), D.int 3), (D.str (Str.ofString "choice"), D.int 4)] = some manyK' from rfl, show keysD [(D.str (Str.ofString "one"), D.int 1), (D.str (Str.ofString "two"), D.int 2), (D.str (Str.ofString "three"), D.int 3), (D.str (Str.ofString "choice"), D.int 3)] = some degKK from rfl]
    refine ⟨(by show 4 ≤ 15; decide), (by show ([.inr "one", .inr "two", .inr "three", .inr "choice"] : List Key).Nodup; decide +kernel), fun g hg => ?_⟩
    replace hb := hb.sub (sub_new (o := .dct manyK') hg)
    have hg1 := updD_same (h := h) (a := g) (o := .dct manyK')
    generalize updD h g _ = h at hb hg1
    refine rDGet_ref (k := .inr (Str.ofString w.str)) (d := .int (w.many : Nat)) hg1 rfl (by cases w <;> rfl) ?_
    clear hg1
    refine ⟨(by show 4 ≤ 15; decide), (by show ([.inr "one", .inr "two", .inr "three", .inr "choice"] : List Key).Nodup; decide +kernel), fun g hg => ?_⟩
    replace hb := hb.sub (sub_new (o := .dct degKK) hg)
    have hg1 := updD_same (h := h) (a := g) (o := .dct degKK)
    generalize updD h g _ = h at hb hg1
    refine rDGet_ref (k := .inr (Str.ofString w.str)) (d := .int (w.deg : Nat)) hg1 rfl (by cases w <;> rfl) ?_
    clear hg1
    try walk_at "D"
    have m4 : w.many ≤ 4 := by cases w <;> decide
    have d1 : 1 ≤ w.deg := by cases w <;> decide
    have d3 : w.deg ≤ 3 := by cases w <;> decide
    have n16 : 2 ^ n ≤ 16 := Nat.le_trans (Nat.pow_le_pow_right (by decide) (show n ≤ 4 by omega)) (by decide)
    refine lc_bag (its := rngD 0 w.many) (h1 := h) (stay := fun _ => True) (fun t : List Int => D.tup (IL t)) (fun t => t.length = 2 ^ n ∧ Rng p t) (by rw [rngD_len]; omega) (fun R r => rngN (fun Q q => by walk_at "D"; exact q) (by omega) r) (fun _ _ => trivial) hb ?_ ?_
    · intro dd h Q hm hb q
      walk_at "D"
      refine lc_takesG (its := rngD 0 (2 ^ n)) (stay := fun _ => True) (p := p) (by rw [rngD_len]; omega) (fun R r => rngN (fun Q q => ?_) (by omega) r) (fun _ _ => trivial) hb ?_ ?_
      · walk_at "D"
        rw [shl1]
        exact ⟨⟨by omega, by omega⟩, q⟩
      · intro dd h Q hm hb q
        walk_at "D"
        exact ⟨b, p, rfl, hb.ok, by omega, by omega, fun v o v0 v1 _ hb' => q v _ v0 v1 (hb' c hb) (.upd _ _ _)⟩
      · intro xs h' lx rx hb ho
        rw [rngD_len] at lx
        exact q xs h' ⟨lx, rx⟩ hb ho
    intro ts h' lt hts hb ho
    rw [rngD_len] at lt
    have ht : Tabs p w (2 ^ n) ts := ⟨lt, hts⟩
    clear ho lt hts
    generalize h' = h at hb
    try walk_at "D"
    refine ⟨le_size (by decide), p, w, ts, [], n, rfl, pp, p5, (by intro x hx; simp at hx), by simp; omega, tcast ht (by simp), ?_⟩
    try walk_at "D"
    refine ⟨b, p - 1, rfl, hb.ok, by omega, by omega, fun v o v0 v1 _ hbc => ?_⟩
    replace hb := hbc c hb
    clear hbc
    generalize updD h b o = h at hb
    try walk_at "D"
    refine ⟨by omega, b, p - 1, rfl, hb.ok, by omega, by omega, fun v' o v0' v1' _ hbc => ?_⟩
    replace hb := hbc c hb
    clear hbc
    generalize updD h b o = h at hb
    try walk_at "D"
    refine ⟨by omega, le_size (by decide), fun a ha => ?_⟩
    refine ⟨b, a, _, rfl, hb.ok.new ha, updD_same, hb.ok.ne ha, by simp, by simp, fun d o hd _ hbc => ?_⟩
    replace hb := hbc c (hb.sub (sub_new ha))
    obtain ⟨v, rfl⟩ : ∃ v : Int, d = .int v := by
      simp only [List.mem_cons, List.not_mem_nil, or_false] at hd
      rcases hd with rfl | rfl | rfl <;> exact ⟨_, rfl⟩
    clear hbc hd v0 v1 v0' v1'
    generalize updD _ b o = h at hb
    try walk_at "D"
    refine ⟨b, c, p, v, w, ts, n, rfl, hb, pp, p5, by omega, ht, fun rs cs h lcs ok lrs hb => ?_⟩
    subst lcs
    refine ⟨rfl, ?_⟩
    try walk_at "D"
    refine for_mk (its := rngD 0 2) (stay := fun _ => True) (h1 := h) (fun R r => rng1 (n := 2) (fun Q q => by walk_at "D"; exact q) (by decide) (by decide) r) (fun i σ h => BagC h b c ∧ ∃ (rs : List (List Int)) (r22 : Option D), RdsOk p rs cs ∧ (∀ r ∈ rs, r.length = w.deg + 1) ∧ (i = 0 ∨ r22 = some (.int (restV p w ts cs))) ∧ ∃ (o2 o8 o14 o15 o16 o17 o18 o19 o20 o21 o23 o24 : Option D), σ = [some (.rol (IL ns)), some (.ref b), o2, some (.int p), some (.str (Str.ofString w.str)), some (.int (cs.length : Nat)), some (.int (w.many : Nat)), some (.int (w.deg : Nat)), o8, some (.tup (TL ts)), some (.int (restV p w ts [])), some (.int v), some (.tup (TL rs)), some (.tup (IL cs)), o14, o15, o16, o17, o18, o19, o20, o21, r22, o23, o24]) ⟨hb, rs, _, ok, lrs, .inl rfl, _, _, _, _, _, _, _, _, _, _, _, _, rfl⟩ (fun _ _ _ _ => trivial) ?_ ?_
    · clear ok lrs hb
      rintro i d σ h hd ⟨hb, rs, r22, ok, lrs, _, o2, o8, o14, o15, o16, o17, o18, o19, o20, o21, o23, o24, rfl⟩
      obtain ⟨hi, rfl⟩ := rng_some hd
      rw [Int.zero_add]
      try walk_at "D"
      apply ite_two4 (o1 := o8) (o2 := o15) (o3 := o16) (rs := rs) (h := h) (fun rs h => BagC h b c ∧ RdsOk p rs cs ∧ ∀ r ∈ rs, r.length = w.deg + 1) ⟨hb, ok, lrs⟩
      · intro k _
        refine ⟨b, cs.length, rfl, hb.ok, by omega, by omega, fun va o va0 va1 _ hbc => ?_⟩
        replace hb := hbc c hb
        clear hbc
        generalize updD h b o = h at hb
        try walk_at "D"
        refine ⟨b, (w.deg : Int) + 1, rfl, hb.ok, by omega, by omega, fun vp o vp0 vp1 _ hbc => ?_⟩
        replace hb := hbc c hb
        clear hbc
        generalize updD h b o = h at hb
        try walk_at "D"
        obtain ⟨at', rfl⟩ : ∃ n : Nat, va = (n : Int) := ⟨va.toNat, by omega⟩
        obtain ⟨pl, rfl⟩ : ∃ n : Nat, vp = (n : Int) := ⟨vp.toNat, by omega⟩
        have lr := ok.1
        have ha : at' < rs.length := by omega
        obtain ⟨r1, r2, r3⟩ := ok.rd ha
        have rl : (rs.getD at' []).length = w.deg + 1 := by
          have e : rs.getD at' [] = rs[at'] := by simp [List.getD, ha]
          rw [e]; exact lrs _ (List.getElem_mem ha)
        have gA := TL_get ha
        generalize rs.getD at' [] = rX at r1 r2 r3 rl gA
        refine ix_at (gA) ?_
        try walk_at "D"
        have ep : ((pl : Nat) : Int) + 1 = ((pl + 1 : Nat) : Int) := by omega
        have ea : ((at' : Nat) : Int) + 1 = ((at' + 1 : Nat) : Int) := by omega
        have c1 : cutG (IL rX) none (some ((pl : Nat) : Int)) = (IL rX).take pl := cut_lo _ _ (by rw [List.length_map]; omega)
        have c2 : cutG (IL rX) (some ((pl + 1 : Nat) : Int)) none = (IL rX).drop (pl + 1) := cut_hi _ _ (by rw [List.length_map]; omega)
        have c3 : cutG (TL rs) none (some ((at' : Nat) : Int)) = (TL rs).take at' := cut_lo _ _ (by rw [List.length_map]; omega)
        have c4 : cutG (TL rs) (some ((at' + 1 : Nat) : Int)) none = (TL rs).drop (at' + 1) := cut_hi _ _ (by rw [List.length_map]; omega)
        rw [ep, ea, c1]
        refine ⟨b, p, rfl, hb.ok, by omega, by omega, fun x o x0 x1 _ hbc => ?_⟩
        replace hb := hbc c hb
        clear hbc
        generalize updD h b o = h at hb
        try walk_at "D"
        try simp only [itemsD]
        refine ⟨le_size (by decide), le_size (by simp; omega), ix_at (gA) ?_⟩
        try walk_at "D"
        rw [c2, c3, c4]
        have er : (IL rX).take pl ++ [D.int x] ++ (IL rX).drop (pl + 1) = IL (rX.take pl ++ [x] ++ rX.drop (pl + 1)) := by simp [List.map_take, List.map_drop]
        have es : (TL rs).take at' ++ [D.tup (IL (rX.take pl ++ [x] ++ rX.drop (pl + 1)))] ++ (TL rs).drop (at' + 1) = TL (rs.take at' ++ [rX.take pl ++ [x] ++ rX.drop (pl + 1)] ++ rs.drop (at' + 1)) := by simp [List.map_take, List.map_drop]
        rw [er, es]
        have rlen : (rX.take pl ++ [x] ++ rX.drop (pl + 1)).length = w.deg + 1 := by simp; omega
        have rrng : Rng p (rX.take pl ++ [x] ++ rX.drop (pl + 1)) := by
          intro y hy
          rcases List.mem_append.mp hy with hy | hy
          · rcases List.mem_append.mp hy with hy | hy
            · exact r3 y (List.mem_of_mem_take hy)
            · obtain rfl := List.mem_singleton.mp hy; exact ⟨x0, x1⟩
          · exact r3 y (List.mem_of_mem_drop hy)
        have mem : ∀ r ∈ rs.take at' ++ [rX.take pl ++ [x] ++ rX.drop (pl + 1)] ++ rs.drop (at' + 1), r.length = w.deg + 1 ∧ Rng p r := by
          intro r hr
          rcases List.mem_append.mp hr with hr | hr
          · rcases List.mem_append.mp hr with hr | hr
            · exact ⟨lrs r (List.mem_of_mem_take hr), (ok.2.2.2 r (List.mem_of_mem_take hr)).2.2⟩
            · obtain rfl := List.mem_singleton.mp hr; exact ⟨rlen, rrng⟩
          · exact ⟨lrs r (List.mem_of_mem_drop hr), (ok.2.2.2 r (List.mem_of_mem_drop hr)).2.2⟩
        have l3 := ok.2.1
        exact ⟨le_size (by simp; omega), le_size (by decide), le_size (by simp; omega), le_size (by simp; omega), k _ _ _ _ _ ⟨hb, ⟨by simp; omega, ok.2.1, ok.2.2.1, fun r hr => ⟨by have := (mem r hr).1; omega, by have := (mem r hr).1; omega, (mem r hr).2⟩⟩, fun r hr => (mem r hr).1⟩⟩
      clear ok lrs hb
      rintro o8 o15 o16 rs h ⟨hb, ok, lrs⟩
      have lr := ok.1
      have rch := ok.2.2.1
      have la := ahL_len p v rs cs
      refine ⟨p, v, rs, cs, rfl, pp, ok, fun vA hvA => ?_⟩
      have hV := updD_same (h := h) (a := vA) (o := .lst (IL (ahL p v rs cs)))
      replace hb := hb.sub (sub_new (o := .lst (IL (ahL p v rs cs))) hvA)
      generalize updD h vA _ = h at hb hV ⊢
      try walk_at "D"
      refine ⟨p, v, rs, cs, vA, rfl, hV, p1, ok, p, v, w, ts, rs, cs, vA, rfl, hV, pp, p5, ok, ht, ?_⟩
      try walk_at "D"
      refine lc_rng rs.length (h1 := h) (fun i => .bl (opA p v rs cs i)) (fun R r => rngN (fun Q q => by walk_at "D"; rw [← lr]; exact q) (by omega) r) (by omega) ?_ ?_
      · intro i Q hi q
        walk_at "D"
        exact ix_ref hV (by omega) (ahL_get (i := i) (by omega)) (ix_at (TL_get hi) ⟨p, _, _, rfl, p1, (ok.rd hi).1, q⟩)
      intro fA hfA
      have hF := updD_same (h := h) (a := fA) (o := .lst ((List.range rs.length).map fun i => D.bl (opA p v rs cs i)))
      have s1 := sub_new (o := .lst ((List.range rs.length).map fun i => D.bl (opA p v rs cs i))) hfA
      replace hb := hb.sub s1
      replace hV := s1 _ _ hV
      clear s1
      generalize updD h fA _ = h at hb hV hF ⊢
      try walk_at "D"
      refine lc_rng rs.length (h1 := h) (fun i => .bl (opA p v rs cs i)) (fun R r => rngN (fun Q q => by walk_at "D"; rw [← lr]; exact q) (by omega) r) (by omega) ?_ ?_
      · intro i Q hi q
        have r1 := (ok.rd hi).1
        walk_at "D"
        refine ix_at (TL_get hi) (ix_at (i := 0) (getD_some (by omega)) (ix_at (TL_get hi) (ix_at (i := 1) (getD_some (by omega)) ?_)))
        walk_at "D"
        refine ix_ref hV (by omega) (ahL_get (i := i) (by omega)) ?_
        walk_at "D"
        exact ⟨by omega, q⟩
      intro gA hgA
      have hG := updD_same (h := h) (a := gA) (o := .lst ((List.range rs.length).map fun i => D.bl (opA p v rs cs i)))
      have s1 := sub_new (o := .lst ((List.range rs.length).map fun i => D.bl (opA p v rs cs i))) hgA
      replace hb := hb.sub s1
      replace hV := s1 _ _ hV
      replace hF := s1 _ _ hF
      clear s1
      generalize updD h gA _ = h at hb hV hF hG ⊢
      try walk_at "D"
      refine lc_rng rs.length (h1 := h) (fun i => .int (ahV p v rs cs (i + 1))) (fun R r => rngN (fun Q q => by walk_at "D"; rw [← lr]; exact q) (by omega) r) (by omega) ?_ ?_
      · intro i Q hi q
        obtain ⟨r1, r2, r3⟩ := ok.rd hi
        have cr := ok.ch hi
        walk_at "D"
        refine ix_at (TL_get hi) (ix_at (getD_some (by omega)) ⟨p, _, _, rfl, pp, hp, by omega, by omega, r3, cr.1, q⟩)
      intro kA hkA
      have hK := updD_same (h := h) (a := kA) (o := .lst ((List.range rs.length).map fun i => D.int (ahV p v rs cs (i + 1))))
      have s1 := sub_new (o := .lst ((List.range rs.length).map fun i => D.int (ahV p v rs cs (i + 1)))) hkA
      replace hb := hb.sub s1
      replace hV := s1 _ _ hV
      replace hF := s1 _ _ hF
      replace hG := s1 _ _ hG
      clear s1
      generalize updD h kA _ = h at hb hV hF hG hK ⊢
      have l3 := ok.2.1
      refine cat_ref hF hK (le_size (by simp; omega)) fun eA heA => ?_
      have hE := updD_same (h := h) (a := eA) (o := .lst ((List.range rs.length).map (fun i => D.bl (opA p v rs cs i)) ++ (List.range rs.length).map fun i => D.int (ahV p v rs cs (i + 1))))
      have s1 := sub_new (o := .lst ((List.range rs.length).map (fun i => D.bl (opA p v rs cs i)) ++ (List.range rs.length).map fun i => D.int (ahV p v rs cs (i + 1)))) heA
      replace hb := hb.sub s1
      replace hV := s1 _ _ hV
      replace hG := s1 _ _ hG
      clear s1 hF hK
      generalize updD h eA _ = h at hb hV hG hE ⊢
      try walk_at "D"
      refine ⟨p, v, rs, cs, rfl, pp, hp, p5, ok, p, v, rs, cs, rfl, pp, hp, p5, ok, ?_⟩
      refine ⟨le_size (by decide), fun mA hmA => ?_⟩
      have hM := updD_same (h := h) (a := mA) (o := .lst [faultV p v rs cs, .int (ahV p v rs cs rs.length)])
      have s1 := sub_new (o := .lst [faultV p v rs cs, .int (ahV p v rs cs rs.length)]) hmA
      replace hb := hb.sub s1
      replace hV := s1 _ _ hV
      replace hG := s1 _ _ hG
      replace hE := s1 _ _ hE
      clear s1
      generalize updD h mA _ = h at hb hV hG hE hM ⊢
      refine cat_ref hE hM (le_size (by simp; omega)) fun xA hxA => ?_
      obtain ⟨fl, hfl⟩ : ∃ fl : List D, (List.range rs.length).map (fun i => D.bl (opA p v rs cs i)) ++ (List.range rs.length).map (fun i => D.int (ahV p v rs cs (i + 1))) ++ [faultV p v rs cs, .int (ahV p v rs cs rs.length)] = fl := ⟨_, rfl⟩
      rw [hfl]
      have hX := updD_same (h := h) (a := xA) (o := .lst fl)
      have s1 := sub_new (o := .lst fl) hxA
      replace hb := hb.sub s1
      replace hV := s1 _ _ hV
      replace hG := s1 _ _ hG
      clear s1 hE hM
      generalize updD h xA _ = h at hb hV hG hX ⊢
      try walk_at "D"
      refine sl_ref hV fun yA hyA => ?_
      rw [cut_from _ _ (by decide), show (1 : Int).toNat = 1 from rfl, ahL_drop]
      have hY := updD_same (h := h) (a := yA) (o := .lst ((List.range rs.length).map fun i => D.int (ahV p v rs cs (i + 1))))
      have s1 := sub_new (o := .lst ((List.range rs.length).map fun i => D.int (ahV p v rs cs (i + 1)))) hyA
      replace hb := hb.sub s1
      replace hV := s1 _ _ hV
      replace hG := s1 _ _ hG
      replace hX := s1 _ _ hX
      clear s1
      generalize updD h yA _ = h at hb hV hG hX hY ⊢
      refine cat_ref hG hY (le_size (by simp; omega)) fun zA hzA => ?_
      have hZ := updD_same (h := h) (a := zA) (o := .lst ((List.range rs.length).map (fun i => D.bl (opA p v rs cs i)) ++ (List.range rs.length).map fun i => D.int (ahV p v rs cs (i + 1))))
      have s1 := sub_new (o := .lst ((List.range rs.length).map (fun i => D.bl (opA p v rs cs i)) ++ (List.range rs.length).map fun i => D.int (ahV p v rs cs (i + 1)))) hzA
      replace hb := hb.sub s1
      replace hV := s1 _ _ hV
      replace hX := s1 _ _ hX
      clear s1 hG hY
      generalize updD h zA _ = h at hb hV hX hZ ⊢
      have lastV : ∀ (h : DH) (Q : DK), h vA = some (.lst (IL (ahL p v rs cs))) → Q (.int (ahV p v rs cs rs.length)) h → rIx (.ref vA) (.int (-1)) h Q := fun h Q e q => ix_last_ref (by rw [← ahL_last]; exact e) q
      refine lastV _ _ hV ⟨le_size (by decide), fun qA hqA => ?_⟩
      have hQ := updD_same (h := h) (a := qA) (o := .lst [faultV p v rs cs, .int (ahV p v rs cs rs.length)])
      have s1 := sub_new (o := .lst [faultV p v rs cs, .int (ahV p v rs cs rs.length)]) hqA
      replace hb := hb.sub s1
      replace hV := s1 _ _ hV
      replace hX := s1 _ _ hX
      replace hZ := s1 _ _ hZ
      clear s1
      generalize updD h qA _ = h at hb hV hX hZ hQ ⊢
      refine cat_ref hZ hQ (le_size (by simp; omega)) fun tA htA => ?_
      rw [hfl]
      have s1 := sub_new (o := .lst fl) htA
      have akl : Alks (updD h tA (.lst fl)) fl fl (1 * (List.range rs.length).length + 1 * (List.range rs.length).length + (1 + (1 + 0))) := by
        rw [← hfl]
        exact alks_app (alks_app (alks_map fun _ _ => .bl _) (alks_map fun _ _ => .int _)) (.cons (alk_fault _ _ _ _ _) (.cons (.int _) .nil))
      refine ⟨_, _, _, rfl, .ref (s1 _ _ hX) updD_same akl, by simp; omega, ?_⟩
      replace hb := hb.sub s1
      replace hV := s1 _ _ hV
      clear s1 hX hZ hQ akl
      generalize updD h tA _ = h at hb hV ⊢
      try walk_at "D"
      refine ⟨p, v, w, ts, rs, cs, rfl, pp, hp, p5, ok, ht, _, _, _, rfl, alk_miss _ _ _ _ _ _ _, by decide, ?_⟩
      try walk_at "D"
      refine ⟨p, w, ts, cs, 0, rfl, pp, p5, rch, by omega, tcast ht (by simp), ?_⟩
      try walk_at "D"
      apply ite_two (h := h) (fun h => BagC h b c) hb
      · intro k hne
        have hne : v ≠ restV p w ts [] := by simpa using hne
        rcases fault_cases p v rs cs with ef | ⟨j, ef⟩
        · refine isN_t ef ?_
          try simp only [↓reduceIte]
          refine lastV _ _ hV ?_
          try walk_at "D"
          by_cases eR : ahV p v rs cs rs.length = restV p w ts cs
          · rw [if_pos (by simpa using eR)]
            rcases miss_cases p w ts v rs cs with ⟨em, el⟩ | ⟨j, em⟩
            · exfalso
              refine miss_some (p := p) (w := w) (ts := ts) (v := v) (rs := rs) (cs := cs) ?_ ?_ el
              · unfold rtB
                rw [List.take_zero]
                simpa [ahV] using hne
              · unfold rtB
                rw [lr, List.take_length, ← lr, eR]; simp
            · refine isN_f em ?_
              try simp only [Bool.false_eq_true, ↓reduceIte]
              exact k _ hb
          · rw [if_neg (by simpa using eR)]
            exact k _ hb
        · refine isN_f ef ?_
          try simp only [Bool.false_eq_true, ↓reduceIte]
          exact k _ hb
      clear hb
      rintro h hb
      have x0 := extV_rng p0 ts cs
      refine ⟨p, w, ts, cs, rfl, pp, rch, by omega, ht, p, w, extV p ts cs, _, rfl, .inl rfl, pp, x0, by rw [extV_len]; exact ht.1, ?_⟩
      rw [rest_full p0 ht]
      refine ⟨_, _, _, rfl, .int _, by decide, ?_⟩
      try walk_at "D"
      rw [← rest_full p0 ht]
      exact ⟨hb, rs, _, ok, lrs, .inr rfl, _, _, _, _, _, _, _, _, _, _, _, _, rfl⟩
    clear ok lrs hb
    rintro σ h ⟨hb, rs, r22, ok, lrs, h22, o2, o8, o14, o15, o16, o17, o18, o19, o20, o21, o23, o24, rfl⟩
    have e22 : r22 = some (.int (restV p w ts cs)) := by
      rcases h22 with h22 | h22
      · rw [rngD_len] at h22; cases h22
      · exact h22
    subst e22
    try walk_at "D"
    have rch := ok.2.2.1
    have l3 := ok.2.1
    have hok := hon_ok (w := w) (ts := ts) p0 l3 rch
    refine ⟨p, w, ts, cs, rfl, pp, p5, rch, by omega, ht, ?_⟩
    rw [dues_hon]
    try walk_at "D"
    refine ⟨p, w, ts, 2 ^ cs.length, rfl, pp, ht, by omega, p, _, _, cs, rfl, pp, hp, p5, hok, p, _, _, cs, rfl, pp, hp, p5, hok, ?_⟩
    rw [hon_fault hp p5 ht, hon_last hp p5 ht, show whl p w ts = restV p w ts [] by unfold restV; rw [fixT_nil]]
    refine ⟨le_size (by decide), fun fA hfA => ?_⟩
    have hF := updD_same (h := h) (a := fA) (o := .lst [.int (restV p w ts []), .non, .int (restV p w ts cs)])
    replace hb := hb.sub (sub_new (o := .lst [.int (restV p w ts []), .non, .int (restV p w ts cs)]) hfA)
    generalize updD h fA _ = h at hb hF ⊢
    try walk_at "D"
    refine ⟨p, _, w, ts, _, cs, rfl, pp, hp, p5, hok, ht, ?_⟩
    rw [hon_miss hp p5 ht]
    refine ⟨le_size (by decide), fun gA hgA => ?_⟩
    have hG := updD_same (h := h) (a := gA) (o := .lst [D.non])
    have s1 := sub_new (o := .lst [D.non]) hgA
    replace hb := hb.sub s1
    replace hF := s1 _ _ hF
    clear s1
    generalize updD h gA _ = h at hb hF hG ⊢
    refine cat_ref hF hG (le_size (by simp)) fun kA hkA => ?_
    have hK := updD_same (h := h) (a := kA) (o := .lst ([.int (restV p w ts []), .non, .int (restV p w ts cs)] ++ [D.non]))
    replace hb := hb.sub (sub_new (o := .lst ([.int (restV p w ts []), .non, .int (restV p w ts cs)] ++ [D.non])) hkA)
    clear hF hG
    generalize updD h kA _ = h at hb hK ⊢
    refine ⟨le_size (by decide), fun mA hmA => ?_⟩
    refine ⟨_, _, _, rfl, .ref (keeps_new hmA _ _ hK) updD_same (.cons (.int _) (.cons .non (.cons (.int _) (.cons .non .nil)))), by decide, ?_⟩
    replace hb := hb.sub (sub_new (o := .lst [.int (restV p w ts []), .non, .int (restV p w ts cs), .non]) hmA)
    clear hK
    generalize updD h mA _ = h at hb ⊢
    try walk_at "D"
    have nok : RdsOk p [] [] := ⟨rfl, by decide, by intro x hx; simp at hx, by intro x hx; simp at hx⟩
    have f0 : faultV p v [] [] = .non := rfl
    refine ⟨le_size (by decide), le_size (by decide), p, v, [], [], rfl, pp, hp, p5, nok, le_size (by decide), le_size (by decide), p, v, [], [], rfl, pp, hp, p5, nok, ?_⟩
    rw [f0]
    refine ⟨le_size (by decide), fun nA hnA => ?_⟩
    have hN : updD h nA (.lst [.int (ahV p v [] [] ([] : List (List Int)).length), .non]) nA = some (.lst [.int v, .non]) := updD_same
    replace hb := hb.sub (sub_new (o := .lst [.int (ahV p v [] [] ([] : List (List Int)).length), .non]) hnA)
    generalize updD h nA _ = h at hb hN ⊢
    refine ⟨le_size (by decide), fun oA hoA => ?_⟩
    refine ⟨_, _, _, rfl, .ref (keeps_new hoA _ _ hN) updD_same (.cons (.int _) (.cons .non .nil)), by decide, ?_⟩
    try walk_at "D"
    exact ⟨(hb.sub (sub_new hoA)).ok, _, _, _, _, _, _, _, _, _, _, _, _, _, _, _, _, _, _, _, _, _, _, _, rfl⟩
  · rintro σ h ⟨hb, o2, o3, o4, o5, o6, o7, o8, o9, o10, o11, o12, o13, o14, o15, o16, o17, o18, o19, o20, o21, o22, o23, o24, rfl⟩
    walk_at "D"
    exact ⟨h, .refl _, q _⟩

structure Txt (w : World) (K : PySem.W.Frag) (mg : Str → Option Value) : Prop where
  b_abs : mg "abs" = none
  b_bool : mg "bool" = none
  b_enumerate : mg "enumerate" = none
  b_int : mg "int" = none
  b_isinstance : mg "isinstance" = none
  b_len : mg "len" = none
  b_list : mg "list" = none
  b_min : mg "min" = none
  b_range : mg "range" = none
  b_str : mg "str" = none
  b_sum : mg "sum" = none
  b_tuple : mg "tuple" = none
  b_zip : mg "zip" = none
  c_DEGREES : GDct w K mg "DEGREES" K_DEGREES
  cl_Summer : Cls K ClsA.Summer
  n_Summer_its_p : NoAttr K ClsA.Summer "its_p"
  n_Summer_its_point : NoAttr K ClsA.Summer "its_point"
  n_Summer_its_tables : NoAttr K ClsA.Summer "its_tables"
  n_Summer_its_word : NoAttr K ClsA.Summer "its_word"
section
variable {P : Program} {w : World} {K : PySem.W.Frag} {mg : Str → Option Value} {base : Heap}
theorem sc_times : FnScope N_times ["p", "one", "other"] (defScope s_times) := ⟨rfl, rfl, rfl, by decide +kernel, rfl, by decide +kernel, by decide +kernel⟩
theorem ok_times {f : Addr} {fd : FuncData} (F : Fun K "times" "times" s_times f fd) (T : Txt w K mg)  : FnOk P w K mg base CX0 1 f fd ["p", "one", "other"] (liftF K sp_times) :=
 fnD F sc_times len_times (fun cdv A outer s H E hr =>
 (dss_one (ds_ret (de_op op_modN ad_mod (de_op op_mulU ad_mul (de_var 1) (de_var 2)) (de_var 0))))) p_times
theorem sc_summed : FnScope N_summed ["p", "some"] (defScope s_summed) := ⟨rfl, rfl, rfl, by decide +kernel, rfl, by decide +kernel, by decide +kernel⟩
theorem ok_summed {f : Addr} {fd : FuncData} (F : Fun K "summed" "summed" s_summed f fd) (T : Txt w K mg)  : FnOk P w K mg base CX0 1 f fd ["p", "some"] (liftF K sp_summed) :=
 fnD F sc_summed len_summed (fun cdv A outer s H E hr =>
 (dss_one (ds_ret (de_op op_modN ad_mod (de_callB (cr_sumU rfl) ad_sumX rfl T.b_sum bt_sum (da_cons (de_var 1) da_nil)) (de_var 0))))) p_summed
theorem sc_product_of : FnScope N_product_of ["p", "some"] (defScope s_product_of) := ⟨rfl, rfl, rfl, by decide +kernel, rfl, by decide +kernel, by decide +kernel⟩
theorem ok_product_of {f : Addr} {fd : FuncData} (F : Fun K "product_of" "product_of" s_product_of f fd) (T : Txt w K mg)  : FnOk P w K mg base CX0 1 f fd ["p", "some"] (liftF K sp_product_of) :=
 fnD F sc_product_of len_product_of (fun cdv A outer s H E hr =>
 (dss_cons (ds_set 2 sc_product_of.nd rfl (by first | exact Or.inl rfl | exact Or.inr rfl) de_int)
 (dss_cons (ds_for PassesOwn.never rfl (di_seq (de_var 1)) (dg_name 3 sc_product_of.nd rfl (by first | exact Or.inl rfl | exact Or.inr rfl))
 (dss_one (ds_set 2 sc_product_of.nd rfl (by first | exact Or.inl rfl | exact Or.inr rfl) (de_op op_modN ad_mod (de_op op_mulU ad_mul (de_var 2) (de_var 3)) (de_var 0)))))
 (dss_one (ds_ret (de_var 2)))))) p_product_of
theorem sc_power : FnScope N_power ["p", "one", "many"] (defScope s_power) := ⟨rfl, rfl, rfl, by decide +kernel, rfl, by decide +kernel, by decide +kernel⟩
theorem ok_power {f : Addr} {fd : FuncData} (F : Fun K "power" "power" s_power f fd) (T : Txt w K mg)  : FnOk P w K mg base CX0 1 f fd ["p", "one", "many"] (liftF K sp_power) :=
 fnD F sc_power len_power (fun cdv A outer s H E hr =>
 (dss_cons (ds_par 3 4 rfl sc_power.nd rfl rfl (by decide) rfl rfl (da_cons de_int (da_cons (de_op op_modN ad_mod (de_var 1) (de_var 0)) da_nil)) (by rfl))
 (dss_cons (ds_while PassesOwn.never (dt_cmp op_gt ad_gt (de_var 2) de_int (nomark _))
 (dss_cons (ds_if (dt_cmp (op_eqD hr.units) ad_eqU (de_op op_modN ad_mod (de_var 2) de_int) de_int (nomark _))
 (dss_one (ds_set 3 sc_power.nd rfl (by first | exact Or.inl rfl | exact Or.inr rfl) (de_op op_modN ad_mod (de_op op_mulU ad_mul (de_var 3) (de_var 4)) (de_var 0))))
 dss_nil)
 (dss_one (ds_par 4 2 rfl sc_power.nd rfl rfl (by decide) rfl rfl (da_cons (de_op op_modN ad_mod (de_op op_mulU ad_mul (de_var 4) (de_var 4)) (de_var 0)) (da_cons (de_op op_fdivN ad_div (de_var 2) de_int) da_nil)) (by rfl)))))
 (dss_one (ds_ret (de_var 3)))))) p_power
theorem sc_inverse : FnScope N_inverse ["p", "one"] (defScope s_inverse) := ⟨rfl, rfl, rfl, by decide +kernel, rfl, by decide +kernel, by decide +kernel⟩
theorem ok_inverse {f : Addr} {fd : FuncData} (F : Fun K "inverse" "inverse" s_inverse f fd) (T : Txt w K mg) (G_power : Kn P w K mg base "power" 1 sp_power) : FnOk P w K mg base CX0 2 f fd ["p", "one"] (liftF K sp_inverse) :=
 fnD F sc_inverse len_inverse (fun cdv A outer s H E hr =>
 (dss_cons (ds_if (dt_cmp (op_eqD hr.units) ad_eqU (de_op op_modN ad_mod (de_var 1) (de_var 0)) de_int (nomark _))
 (dss_one ds_never)
 dss_nil)
 (dss_one (ds_ret (de_kn (G_power.mono (by decide)) hr (da_cons (de_var 0) (da_cons (de_var 1) (da_cons (de_op op_sub ad_sub (de_var 0) de_int) da_nil)))))))) p_inverse
theorem sc_basis_at : FnScope N_basis_at ["p", "many", "place", "number"] (defScope s_basis_at) := ⟨rfl, rfl, rfl, by decide +kernel, rfl, by decide +kernel, by decide +kernel⟩
theorem ok_basis_at {f : Addr} {fd : FuncData} (F : Fun K "basis_at" "basis_at" s_basis_at f fd) (T : Txt w K mg) (G_product_of : Kn P w K mg base "product_of" 1 sp_product_of) (G_times : Kn P w K mg base "times" 1 sp_times) (G_inverse : Kn P w K mg base "inverse" 2 sp_inverse) : FnOk P w K mg base CX0 3 f fd ["p", "many", "place", "number"] (liftF K sp_basis_at) :=
 fnD F sc_basis_at len_basis_at (fun cdv A outer s H E hr =>
 (dss_cons (ds_lc 4 rfl sc_basis_at.nd rfl rfl (sw_true rfl rfl rfl (by decide +kernel)) (di_range1 rfl T.b_range (da_cons (de_var 1) da_nil)) (blkOk_by (own := [("other", 6)]) (N := N_basis_at) (sc := defScope s_basis_at) (by decide +kernel)) (by decide) (fun _ _ _ _ _ => (dg_name 6 sc_basis_at.nd rfl (by first | exact Or.inl rfl | exact Or.inr rfl))) (fun _ _ _ _ _ => (dts_one (dt_cmp (op_neD hr.units) ad_neU (de_var 6) (de_var 2) (nomark _)))) (fun _ _ _ _ _ => (de_var 6)))
 (dss_cons (ds_set 5 sc_basis_at.nd rfl (by first | exact Or.inl rfl | exact Or.inr rfl) (de_kn (G_product_of.mono (by decide)) hr (da_cons (de_var 0) (da_cons (de_lcE (dl_lc rfl sc_basis_at.nd (di_seq (de_var 4)) (blkOk_by (own := [("other", 6)]) (N := N_basis_at) (sc := defScope s_basis_at) (by decide +kernel)) (by decide) (fun _ _ _ _ _ => (dg_name 6 sc_basis_at.nd rfl (by first | exact Or.inl rfl | exact Or.inr rfl))) (fun _ _ _ _ _ => dts_nil) (fun _ _ _ _ _ => (de_op op_modN ad_mod (de_op op_sub ad_sub (de_var 3) (de_var 6)) (de_var 0))))) da_nil))))
 (dss_one (ds_ret (de_kn (G_times.mono (by decide)) hr (da_cons (de_var 0) (da_cons (de_var 5) (da_cons (de_kn (G_inverse.mono (by decide)) hr (da_cons (de_var 0) (da_cons (de_kn (G_product_of.mono (by decide)) hr (da_cons (de_var 0) (da_cons (de_lcE (dl_lc rfl sc_basis_at.nd (di_seq (de_var 4)) (blkOk_by (own := [("other", 6)]) (N := N_basis_at) (sc := defScope s_basis_at) (by decide +kernel)) (by decide) (fun _ _ _ _ _ => (dg_name 6 sc_basis_at.nd rfl (by first | exact Or.inl rfl | exact Or.inr rfl))) (fun _ _ _ _ _ => dts_nil) (fun _ _ _ _ _ => (de_op op_modN ad_mod (de_op op_sub ad_sub (de_var 2) (de_var 6)) (de_var 0))))) da_nil))) da_nil))) da_nil))))))))) p_basis_at
theorem sc_value_at : FnScope N_value_at ["p", "values", "number"] (defScope s_value_at) := ⟨rfl, rfl, rfl, by decide +kernel, rfl, by decide +kernel, by decide +kernel⟩
theorem ok_value_at {f : Addr} {fd : FuncData} (F : Fun K "value_at" "value_at" s_value_at f fd) (T : Txt w K mg) (G_summed : Kn P w K mg base "summed" 1 sp_summed) (G_basis_at : Kn P w K mg base "basis_at" 3 sp_basis_at) : FnOk P w K mg base CX0 4 f fd ["p", "values", "number"] (liftF K sp_value_at) :=
 fnD F sc_value_at len_value_at (fun cdv A outer s H E hr =>
 (dss_cons (ds_if (dt_cmp op_lt ad_lt (de_var 2) (de_callB call_len ad_len rfl T.b_len bt_len (da_cons (de_var 1) da_nil)) (nomark _))
 (dss_one (ds_ret (de_ix (de_var 1) (de_var 2))))
 dss_nil)
 (dss_cons (ds_set 3 sc_value_at.nd rfl (by first | exact Or.inl rfl | exact Or.inr rfl) (de_callB call_len ad_len rfl T.b_len bt_len (da_cons (de_var 1) da_nil)))
 (dss_one (ds_ret (de_kn (G_summed.mono (by decide)) hr (da_cons (de_var 0) (da_cons (de_lcE (dl_lc rfl sc_value_at.nd (di_enum rfl T.b_enumerate (da_cons (de_var 1) da_nil)) (blkOk_by (own := [("place", 4), ("value", 5)]) (N := N_value_at) (sc := defScope s_value_at) (by decide +kernel)) (by decide) (fun _ _ _ _ _ => (dg_tup rfl (dgs_cons (dg_name 4 sc_value_at.nd rfl (by first | exact Or.inl rfl | exact Or.inr rfl)) (dgs_cons (dg_name 5 sc_value_at.nd rfl (by first | exact Or.inl rfl | exact Or.inr rfl)) dgs_nil)))) (fun _ _ _ _ _ => dts_nil) (fun _ _ _ _ _ => (de_op op_mulU ad_mul (de_var 5) (de_kn (G_basis_at.mono (by decide)) hr (da_cons (de_var 0) (da_cons (de_var 3) (da_cons (de_var 4) (da_cons (de_var 2) da_nil))))))))) da_nil)))))))) p_value_at
theorem sc_bits_of : FnScope N_bits_of ["table"] (defScope s_bits_of) := ⟨rfl, rfl, rfl, by decide +kernel, rfl, by decide +kernel, by decide +kernel⟩
theorem ok_bits_of {f : Addr} {fd : FuncData} (F : Fun K "bits_of" "bits_of" s_bits_of f fd) (T : Txt w K mg)  : FnOk P w K mg base CX0 1 f fd ["table"] (liftF K sp_bits_of) :=
 fnD F sc_bits_of len_bits_of (fun cdv A outer s H E hr =>
 (dss_cons (ds_set 1 sc_bits_of.nd rfl (by first | exact Or.inl rfl | exact Or.inr rfl) de_int)
 (dss_cons (ds_while PassesOwn.never (dt_cmp op_lt ad_lt (de_op op_shl ad_shl de_int (de_var 1)) (de_callB call_len ad_len rfl T.b_len bt_len (da_cons (de_var 0) da_nil)) (nomark _))
 (dss_one (ds_aug 1 ip_add ad_ipadd sc_bits_of.nd rfl (by first | exact Or.inl rfl | exact Or.inr rfl) de_int)))
 (dss_one (ds_ret (de_var 1)))))) p_bits_of
theorem sc_weights : FnScope N_weights ["p", "point"] (defScope s_weights) := ⟨rfl, rfl, rfl, by decide +kernel, rfl, by decide +kernel, by decide +kernel⟩
theorem ok_weights {f : Addr} {fd : FuncData} (F : Fun K "weights" "weights" s_weights f fd) (T : Txt w K mg)  : FnOk P w K mg base CX0 1 f fd ["p", "point"] (liftF K sp_weights) :=
 fnD F sc_weights len_weights (fun cdv A outer s H E hr =>
 (dss_cons (ds_set 2 sc_weights.nd rfl (by first | exact Or.inl rfl | exact Or.inr rfl) (de_lst (da_cons de_int da_nil)))
 (dss_cons (ds_for PassesOwn.never rfl (di_seq (de_var 1)) (dg_name 3 sc_weights.nd rfl (by first | exact Or.inl rfl | exact Or.inr rfl))
 (dss_one (ds_lc2 2 rfl sc_weights.nd rfl rfl (sw_true rfl rfl rfl (by decide +kernel)) (di_seq (de_var 2)) (blkOk_by (own := [("weight", 4), ("one", 5)]) (N := N_weights) (sc := defScope s_weights) (by decide +kernel)) (vs1 := [5]) (by decide) (by decide) (by decide) (fun _ _ _ _ _ => (dg_name 4 sc_weights.nd rfl (by first | exact Or.inl rfl | exact Or.inr rfl))) (fun _ _ _ _ _ => dts_nil) (fun _ _ _ _ _ => (di_seq (de_tup (da_cons (de_op op_modN ad_mod (de_op op_mulU ad_mul (de_var 4) (de_op op_sub ad_sub de_int (de_var 3))) (de_var 0)) (da_cons (de_op op_modN ad_mod (de_op op_mulU ad_mul (de_var 4) (de_var 3)) (de_var 0)) da_nil))))) (fun _ _ _ _ _ => (dg_name 5 sc_weights.nd rfl (by first | exact Or.inl rfl | exact Or.inr rfl))) (fun _ _ _ _ _ => dts_nil) (fun _ _ _ _ _ => (de_var 5)))))
 (dss_one (ds_ret (de_callTy call_tuple_of ad_tupleOf rfl T.b_tuple bt_tuple (da_cons (de_var 2) da_nil))))))) p_weights
theorem sc_extension : FnScope N_extension ["p", "table", "point"] (defScope s_extension) := ⟨rfl, rfl, rfl, by decide +kernel, rfl, by decide +kernel, by decide +kernel⟩
theorem ok_extension {f : Addr} {fd : FuncData} (F : Fun K "extension" "extension" s_extension f fd) (T : Txt w K mg) (G_summed : Kn P w K mg base "summed" 1 sp_summed) (G_weights : Kn P w K mg base "weights" 1 sp_weights) : FnOk P w K mg base CX0 2 f fd ["p", "table", "point"] (liftF K sp_extension) :=
 fnD F sc_extension len_extension (fun cdv A outer s H E hr =>
 (dss_one (ds_ret (de_kn (G_summed.mono (by decide)) hr (da_cons (de_var 0) (da_cons (de_lcE (dl_lc rfl sc_extension.nd (di_zip2 rfl T.b_zip (da_cons (de_var 1) (da_cons (de_kn (G_weights.mono (by decide)) hr (da_cons (de_var 0) (da_cons (de_var 2) da_nil))) da_nil))) (blkOk_by (own := [("number", 3), ("one", 4)]) (N := N_extension) (sc := defScope s_extension) (by decide +kernel)) (by decide) (fun _ _ _ _ _ => (dg_tup rfl (dgs_cons (dg_name 3 sc_extension.nd rfl (by first | exact Or.inl rfl | exact Or.inr rfl)) (dgs_cons (dg_name 4 sc_extension.nd rfl (by first | exact Or.inl rfl | exact Or.inr rfl)) dgs_nil)))) (fun _ _ _ _ _ => dts_nil) (fun _ _ _ _ _ => (de_op op_mulU ad_mul (de_var 3) (de_var 4))))) da_nil)))))) p_extension
theorem sc_fixed : FnScope N_fixed ["p", "table", "number"] (defScope s_fixed) := ⟨rfl, rfl, rfl, by decide +kernel, rfl, by decide +kernel, by decide +kernel⟩
theorem ok_fixed {f : Addr} {fd : FuncData} (F : Fun K "fixed" "fixed" s_fixed f fd) (T : Txt w K mg)  : FnOk P w K mg base CX0 1 f fd ["p", "table", "number"] (liftF K sp_fixed) :=
 fnD F sc_fixed len_fixed (fun cdv A outer s H E hr =>
 (dss_cons (ds_set 3 sc_fixed.nd rfl (by first | exact Or.inl rfl | exact Or.inr rfl) (de_op op_fdivN ad_div (de_callB call_len ad_len rfl T.b_len bt_len (da_cons (de_var 1) da_nil)) de_int))
 (dss_one (ds_ret (de_lcT rfl T.b_tuple (dl_lc rfl sc_fixed.nd (di_zip2 rfl T.b_zip (da_cons (de_slice (de_var 1) do_none (do_some (de_var 3))) (da_cons (de_slice (de_var 1) (do_some (de_var 3)) do_none) da_nil))) (blkOk_by (own := [("low", 4), ("high", 5)]) (N := N_fixed) (sc := defScope s_fixed) (by decide +kernel)) (by decide) (fun _ _ _ _ _ => (dg_tup rfl (dgs_cons (dg_name 4 sc_fixed.nd rfl (by first | exact Or.inl rfl | exact Or.inr rfl)) (dgs_cons (dg_name 5 sc_fixed.nd rfl (by first | exact Or.inl rfl | exact Or.inr rfl)) dgs_nil)))) (fun _ _ _ _ _ => dts_nil) (fun _ _ _ _ _ => (de_op op_modN ad_mod (de_op op_addU ad_add (de_var 4) (de_op op_mulU ad_mul (de_var 2) (de_op op_sub ad_sub (de_var 5) (de_var 4)))) (de_var 0))))))))) p_fixed
theorem sc_degree_of : FnScope N_degree_of ["word"] (defScope s_degree_of) := ⟨rfl, rfl, rfl, by decide +kernel, rfl, by decide +kernel, by decide +kernel⟩
theorem ok_degree_of {f : Addr} {fd : FuncData} (F : Fun K "degree_of" "degree_of" s_degree_of f fd) (T : Txt w K mg)  : FnOk P w K mg base CX0 1 f fd ["word"] (liftF K sp_degree_of) :=
 fnD F sc_degree_of len_degree_of (fun cdv A outer s H E hr =>
 (dss_one (ds_ret (de_gix rfl T.c_DEGREES (de_var 0))))) p_degree_of
theorem sc_number_of : FnScope N_number_of ["p", "word", "numbers"] (defScope s_number_of) := ⟨rfl, rfl, rfl, by decide +kernel, rfl, by decide +kernel, by decide +kernel⟩
theorem ok_number_of {f : Addr} {fd : FuncData} (F : Fun K "number_of" "number_of" s_number_of f fd) (T : Txt w K mg)  : FnOk P w K mg base CX0 1 f fd ["p", "word", "numbers"] (liftF K sp_number_of) :=
 fnD F sc_number_of len_number_of (fun cdv A outer s H E hr =>
 (dss_cons (ds_if (dt_cmp (op_eqD hr.units) ad_eqU (de_var 1) de_str (nomark _))
 (dss_cons (ds_asg (de_var 2) (dg_unb rfl (dgs_cons (dg_name 3 sc_number_of.nd rfl (by first | exact Or.inl rfl | exact Or.inr rfl)) (dgs_cons (dg_name 4 sc_number_of.nd rfl (by first | exact Or.inl rfl | exact Or.inr rfl)) (dgs_cons (dg_name 5 sc_number_of.nd rfl (by first | exact Or.inl rfl | exact Or.inr rfl)) (dgs_cons (dg_name 6 sc_number_of.nd rfl (by first | exact Or.inl rfl | exact Or.inr rfl)) dgs_nil))))))
 (dss_one (ds_ret (de_op op_modN ad_mod (de_op op_mulU ad_mul (de_var 3) (de_op op_addU ad_add (de_op op_mulU ad_mul (de_var 4) (de_var 5)) (de_op op_mulU ad_mul (de_op op_sub ad_sub de_int (de_var 4)) (de_var 6)))) (de_var 0)))))
 dss_nil)
 (dss_cons (ds_set 7 sc_number_of.nd rfl (by first | exact Or.inl rfl | exact Or.inr rfl) de_int)
 (dss_cons (ds_for PassesOwn.never rfl (di_seq (de_var 2)) (dg_name 8 sc_number_of.nd rfl (by first | exact Or.inl rfl | exact Or.inr rfl))
 (dss_one (ds_set 7 sc_number_of.nd rfl (by first | exact Or.inl rfl | exact Or.inr rfl) (de_op op_modN ad_mod (de_op op_mulU ad_mul (de_var 7) (de_var 8)) (de_var 0)))))
 (dss_one (ds_ret (de_var 7))))))) p_number_of
theorem sc_whole_sum : FnScope N_whole_sum ["p", "word", "tables"] (defScope s_whole_sum) := ⟨rfl, rfl, rfl, by decide +kernel, rfl, by decide +kernel, by decide +kernel⟩
theorem ok_whole_sum {f : Addr} {fd : FuncData} (F : Fun K "whole_sum" "whole_sum" s_whole_sum f fd) (T : Txt w K mg) (G_summed : Kn P w K mg base "summed" 1 sp_summed) (G_number_of : Kn P w K mg base "number_of" 1 sp_number_of) : FnOk P w K mg base CX0 2 f fd ["p", "word", "tables"] (liftF K sp_whole_sum) :=
 fnD F sc_whole_sum len_whole_sum (fun cdv A outer s H E hr =>
 (dss_one (ds_ret (de_kn (G_summed.mono (by decide)) hr (da_cons (de_var 0) (da_cons (de_lcE (dl_lc rfl sc_whole_sum.nd (di_zipM rfl T.b_zip (de_var 2)) (blkOk_by (own := [("numbers", 3)]) (N := N_whole_sum) (sc := defScope s_whole_sum) (by decide +kernel)) (by decide) (fun _ _ _ _ _ => (dg_name 3 sc_whole_sum.nd rfl (by first | exact Or.inl rfl | exact Or.inr rfl))) (fun _ _ _ _ _ => dts_nil) (fun _ _ _ _ _ => (de_kn (G_number_of.mono (by decide)) hr (da_cons (de_var 0) (da_cons (de_var 1) (da_cons (de_var 3) da_nil))))))) da_nil)))))) p_whole_sum
theorem sc_all_points : FnScope N_all_points ["bits"] (defScope s_all_points) := ⟨rfl, rfl, rfl, by decide +kernel, rfl, by decide +kernel, by decide +kernel⟩
theorem ok_all_points {f : Addr} {fd : FuncData} (F : Fun K "all_points" "all_points" s_all_points f fd) (T : Txt w K mg)  : FnOk P w K mg base CX0 1 f fd ["bits"] (liftF K sp_all_points) :=
 fnD F sc_all_points len_all_points (fun cdv A outer s H E hr =>
 (dss_cons (ds_set 1 sc_all_points.nd rfl (by first | exact Or.inl rfl | exact Or.inr rfl) (de_lst (da_cons (de_tup da_nil) da_nil)))
 (dss_cons (ds_for PassesOwn.never rfl (di_range1 rfl T.b_range (da_cons (de_var 0) da_nil)) (dg_name 2 sc_all_points.nd rfl (by first | exact Or.inl rfl | exact Or.inr rfl))
 (dss_one (ds_lc2 1 rfl sc_all_points.nd rfl rfl (sw_true rfl rfl rfl (by decide +kernel)) (di_seq (de_var 1)) (blkOk_by (own := [("point", 3), ("bit", 4)]) (N := N_all_points) (sc := defScope s_all_points) (by decide +kernel)) (vs1 := [4]) (by decide) (by decide) (by decide) (fun _ _ _ _ _ => (dg_name 3 sc_all_points.nd rfl (by first | exact Or.inl rfl | exact Or.inr rfl))) (fun _ _ _ _ _ => dts_nil) (fun _ _ _ _ _ => (di_seq (de_tup (da_cons de_int (da_cons de_int da_nil))))) (fun _ _ _ _ _ => (dg_name 4 sc_all_points.nd rfl (by first | exact Or.inl rfl | exact Or.inr rfl))) (fun _ _ _ _ _ => dts_nil) (fun _ _ _ _ _ => (de_tup (da_star (de_var 3) (da_cons (de_var 4) da_nil)))))))
 (dss_one (ds_ret (de_var 1)))))) p_all_points
theorem sc_number_at : FnScope N_number_at ["p", "word", "tables", "point"] (defScope s_number_at) := ⟨rfl, rfl, rfl, by decide +kernel, rfl, by decide +kernel, by decide +kernel⟩
theorem ok_number_at {f : Addr} {fd : FuncData} (F : Fun K "number_at" "number_at" s_number_at f fd) (T : Txt w K mg) (G_number_of : Kn P w K mg base "number_of" 1 sp_number_of) (G_extension : Kn P w K mg base "extension" 2 sp_extension) : FnOk P w K mg base CX0 3 f fd ["p", "word", "tables", "point"] (liftF K sp_number_at) :=
 fnD F sc_number_at len_number_at (fun cdv A outer s H E hr =>
 (dss_one (ds_ret (de_kn (G_number_of.mono (by decide)) hr (da_cons (de_var 0) (da_cons (de_var 1) (da_cons (de_lcE (dl_lc rfl sc_number_at.nd (di_seq (de_var 2)) (blkOk_by (own := [("table", 4)]) (N := N_number_at) (sc := defScope s_number_at) (by decide +kernel)) (by decide) (fun _ _ _ _ _ => (dg_name 4 sc_number_at.nd rfl (by first | exact Or.inl rfl | exact Or.inr rfl))) (fun _ _ _ _ _ => dts_nil) (fun _ _ _ _ _ => (de_kn (G_extension.mono (by decide)) hr (da_cons (de_var 0) (da_cons (de_var 4) (da_cons (de_var 3) da_nil))))))) da_nil))))))) p_number_at
theorem sc_rest_sum : FnScope N_rest_sum ["p", "word", "tables", "challenges"] (defScope s_rest_sum) := ⟨rfl, rfl, rfl, by decide +kernel, rfl, by decide +kernel, by decide +kernel⟩
theorem ok_rest_sum {f : Addr} {fd : FuncData} (F : Fun K "rest_sum" "rest_sum" s_rest_sum f fd) (T : Txt w K mg) (G_bits_of : Kn P w K mg base "bits_of" 1 sp_bits_of) (G_summed : Kn P w K mg base "summed" 1 sp_summed) (G_all_points : Kn P w K mg base "all_points" 1 sp_all_points) (G_number_at : Kn P w K mg base "number_at" 3 sp_number_at) : FnOk P w K mg base CX0 4 f fd ["p", "word", "tables", "challenges"] (liftF K sp_rest_sum) :=
 fnD F sc_rest_sum len_rest_sum (fun cdv A outer s H E hr =>
 (dss_cons (ds_set 4 sc_rest_sum.nd rfl (by first | exact Or.inl rfl | exact Or.inr rfl) (de_op op_sub ad_sub (de_kn (G_bits_of.mono (by decide)) hr (da_cons (de_ix (de_var 2) de_int) da_nil)) (de_callB call_len ad_len rfl T.b_len bt_len (da_cons (de_var 3) da_nil))))
 (dss_one (ds_ret (de_kn (G_summed.mono (by decide)) hr (da_cons (de_var 0) (da_cons (de_lcE (dl_lc rfl sc_rest_sum.nd (di_seq (de_kn (G_all_points.mono (by decide)) hr (da_cons (de_var 4) da_nil))) (blkOk_by (own := [("point", 5)]) (N := N_rest_sum) (sc := defScope s_rest_sum) (by decide +kernel)) (by decide) (fun _ _ _ _ _ => (dg_name 5 sc_rest_sum.nd rfl (by first | exact Or.inl rfl | exact Or.inr rfl))) (fun _ _ _ _ _ => dts_nil) (fun _ _ _ _ _ => (de_kn (G_number_at.mono (by decide)) hr (da_cons (de_var 0) (da_cons (de_var 1) (da_cons (de_var 2) (da_cons (de_tup (da_star (de_var 3) (da_star (de_var 5) da_nil))) da_nil)))))))) da_nil))))))) p_rest_sum
theorem sc_fixed_all : FnScope N_fixed_all ["p", "tables", "number"] (defScope s_fixed_all) := ⟨rfl, rfl, rfl, by decide +kernel, rfl, by decide +kernel, by decide +kernel⟩
theorem ok_fixed_all {f : Addr} {fd : FuncData} (F : Fun K "fixed_all" "fixed_all" s_fixed_all f fd) (T : Txt w K mg) (G_fixed : Kn P w K mg base "fixed" 1 sp_fixed) : FnOk P w K mg base CX0 2 f fd ["p", "tables", "number"] (liftF K sp_fixed_all) :=
 fnD F sc_fixed_all len_fixed_all (fun cdv A outer s H E hr =>
 (dss_one (ds_ret (de_lcT rfl T.b_tuple (dl_lc rfl sc_fixed_all.nd (di_seq (de_var 1)) (blkOk_by (own := [("table", 3)]) (N := N_fixed_all) (sc := defScope s_fixed_all) (by decide +kernel)) (by decide) (fun _ _ _ _ _ => (dg_name 3 sc_fixed_all.nd rfl (by first | exact Or.inl rfl | exact Or.inr rfl))) (fun _ _ _ _ _ => dts_nil) (fun _ _ _ _ _ => (de_kn (G_fixed.mono (by decide)) hr (da_cons (de_var 0) (da_cons (de_var 3) (da_cons (de_var 2) da_nil)))))))))) p_fixed_all
theorem sc_round_of : FnScope N_round_of ["p", "word", "tables"] (defScope s_round_of) := ⟨rfl, rfl, rfl, by decide +kernel, rfl, by decide +kernel, by decide +kernel⟩
theorem ok_round_of {f : Addr} {fd : FuncData} (F : Fun K "round_of" "round_of" s_round_of f fd) (T : Txt w K mg) (G_degree_of : Kn P w K mg base "degree_of" 1 sp_degree_of) (G_whole_sum : Kn P w K mg base "whole_sum" 2 sp_whole_sum) (G_fixed_all : Kn P w K mg base "fixed_all" 2 sp_fixed_all) : FnOk P w K mg base CX0 3 f fd ["p", "word", "tables"] (liftF K sp_round_of) :=
 fnD F sc_round_of len_round_of (fun cdv A outer s H E hr =>
 (dss_one (ds_ret (de_lcT rfl T.b_tuple (dl_lc rfl sc_round_of.nd (di_range1 rfl T.b_range (da_cons (de_op op_addU ad_add (de_kn (G_degree_of.mono (by decide)) hr (da_cons (de_var 1) da_nil)) de_int) da_nil)) (blkOk_by (own := [("number", 3)]) (N := N_round_of) (sc := defScope s_round_of) (by decide +kernel)) (by decide) (fun _ _ _ _ _ => (dg_name 3 sc_round_of.nd rfl (by first | exact Or.inl rfl | exact Or.inr rfl))) (fun _ _ _ _ _ => dts_nil) (fun _ _ _ _ _ => (de_kn (G_whole_sum.mono (by decide)) hr (da_cons (de_var 0) (da_cons (de_var 1) (da_cons (de_kn (G_fixed_all.mono (by decide)) hr (da_cons (de_var 0) (da_cons (de_var 2) (da_cons (de_var 3) da_nil)))) da_nil)))))))))) p_round_of
theorem sc_Summer___init__ : FnScope N_Summer___init__ ["self", "p", "word", "tables"] (defScope s_Summer___init__) := ⟨rfl, rfl, rfl, by decide +kernel, rfl, by decide +kernel, by decide +kernel⟩
theorem ok_Summer___init__ {f : Addr} {fd : FuncData} (F : Fun K "__init__" "Summer.__init__" s_Summer___init__ f fd) (T : Txt w K mg)  : FnOk P w K mg base CX0 1 f fd ["self", "p", "word", "tables"] (liftF K sp_Summer___init__) :=
 fnD F sc_Summer___init__ len_Summer___init__ (fun cdv A outer s H E hr =>
 (dss_cons (ds_asg (de_tup (da_cons (de_var 1) (da_cons (de_var 2) (da_cons (de_callTy call_tuple_of ad_tupleOf rfl T.b_tuple bt_tuple (da_cons (de_var 3) da_nil)) da_nil)))) (dg_tup rfl (dgs_cons (dg_fld T.cl_Summer T.n_Summer_its_p (de_var 0)) (dgs_cons (dg_fld T.cl_Summer T.n_Summer_its_word (de_var 0)) (dgs_cons (dg_fld T.cl_Summer T.n_Summer_its_tables (de_var 0)) dgs_nil)))))
 (dss_one (ds_fld T.cl_Summer T.n_Summer_its_point (de_var 0) (de_tup da_nil))))) p_Summer___init__
theorem sc_Summer_told : FnScope N_Summer_told ["self"] (defScope s_Summer_told) := ⟨rfl, rfl, rfl, by decide +kernel, rfl, by decide +kernel, by decide +kernel⟩
theorem ok_Summer_told {f : Addr} {fd : FuncData} (F : Fun K "told" "Summer.told" s_Summer_told f fd) (T : Txt w K mg) (G_round_of : Kn P w K mg base "round_of" 3 sp_round_of) : FnOk P w K mg base CX0 4 f fd ["self"] (liftF K sp_Summer_told) :=
 fnD F sc_Summer_told len_Summer_told (fun cdv A outer s H E hr =>
 (dss_one (ds_ret (de_kn (G_round_of.mono (by decide)) hr (da_cons (de_fld T.cl_Summer T.n_Summer_its_p (de_var 0)) (da_cons (de_fld T.cl_Summer T.n_Summer_its_word (de_var 0)) (da_cons (de_fld T.cl_Summer T.n_Summer_its_tables (de_var 0)) da_nil))))))) p_Summer_told
theorem sc_Summer_draw : FnScope N_Summer_draw ["self", "number"] (defScope s_Summer_draw) := ⟨rfl, rfl, rfl, by decide +kernel, rfl, by decide +kernel, by decide +kernel⟩
theorem ok_Summer_draw {f : Addr} {fd : FuncData} (F : Fun K "draw" "Summer.draw" s_Summer_draw f fd) (T : Txt w K mg) (G_fixed_all : Kn P w K mg base "fixed_all" 2 sp_fixed_all) : FnOk P w K mg base CX0 3 f fd ["self", "number"] (liftF K sp_Summer_draw) :=
 fnD F sc_Summer_draw len_Summer_draw (fun cdv A outer s H E hr =>
 (dss_cons (ds_fld T.cl_Summer T.n_Summer_its_tables (de_var 0) (de_kn (G_fixed_all.mono (by decide)) hr (da_cons (de_fld T.cl_Summer T.n_Summer_its_p (de_var 0)) (da_cons (de_fld T.cl_Summer T.n_Summer_its_tables (de_var 0)) (da_cons (de_var 1) da_nil)))))
 (dss_one (ds_fld T.cl_Summer T.n_Summer_its_point (de_var 0) (de_tup (da_star (de_fld T.cl_Summer T.n_Summer_its_point (de_var 0)) (da_cons (de_var 1) da_nil))))))) p_Summer_draw
theorem sc_rounds_of : FnScope N_rounds_of ["p", "word", "tables", "challenges"] (defScope s_rounds_of) := ⟨rfl, rfl, rfl, by decide +kernel, rfl, by decide +kernel, by decide +kernel⟩
theorem ok_rounds_of {f : Addr} {fd : FuncData} (F : Fun K "rounds_of" "rounds_of" s_rounds_of f fd) (T : Txt w K mg) (C_Summer : KnC P w K mg base ClsA.Summer "Summer" 1 sp_Summer___init__) (M_Summer_told : KnM P w K mg base ClsA.Summer "told" 4 sp_Summer_told) (M_Summer_draw : KnM P w K mg base ClsA.Summer "draw" 3 sp_Summer_draw) : FnOk P w K mg base CX0 5 f fd ["p", "word", "tables", "challenges"] (liftF K sp_rounds_of) :=
 fnD F sc_rounds_of len_rounds_of (fun cdv A outer s H E hr =>
 (dss_cons (ds_par 4 5 rfl sc_rounds_of.nd rfl rfl (by decide) rfl rfl (da_cons (de_make (C_Summer.mono (by decide)) hr (da_cons (de_var 0) (da_cons (de_var 1) (da_cons (de_var 2) da_nil)))) (da_cons (de_lst da_nil) da_nil)) (by rfl))
 (dss_cons (ds_for PassesOwn.never rfl (di_seq (de_var 3)) (dg_name 6 sc_rounds_of.nd rfl (by first | exact Or.inl rfl | exact Or.inr rfl))
 (dss_cons (ds_expr (de_meth (pe_bm PySem.F.plainAttrs_list PySem.F.slot_list_append PySem.F.type_list_append mt_append (de_var 5) (da_cons (de_omet0 T.cl_Summer (M_Summer_told.mono (by decide)) hr (de_var 4)) da_nil)) ad_append))
 (dss_one (ds_expr (de_omet T.cl_Summer (M_Summer_draw.mono (by decide)) hr (de_var 4) (da_cons (de_var 6) da_nil))))))
 (dss_one (ds_ret (de_callTy call_tuple_of ad_tupleOf rfl T.b_tuple bt_tuple (da_cons (de_var 5) da_nil))))))) p_rounds_of
theorem sc_last_numbers : FnScope N_last_numbers ["p", "word", "tables", "challenges"] (defScope s_last_numbers) := ⟨rfl, rfl, rfl, by decide +kernel, rfl, by decide +kernel, by decide +kernel⟩
theorem ok_last_numbers {f : Addr} {fd : FuncData} (F : Fun K "last_numbers" "last_numbers" s_last_numbers f fd) (T : Txt w K mg) (G_extension : Kn P w K mg base "extension" 2 sp_extension) : FnOk P w K mg base CX0 3 f fd ["p", "word", "tables", "challenges"] (liftF K sp_last_numbers) :=
 fnD F sc_last_numbers len_last_numbers (fun cdv A outer s H E hr =>
 (dss_one (ds_ret (de_lcT rfl T.b_tuple (dl_lc rfl sc_last_numbers.nd (di_seq (de_var 2)) (blkOk_by (own := [("table", 4)]) (N := N_last_numbers) (sc := defScope s_last_numbers) (by decide +kernel)) (by decide) (fun _ _ _ _ _ => (dg_name 4 sc_last_numbers.nd rfl (by first | exact Or.inl rfl | exact Or.inr rfl))) (fun _ _ _ _ _ => dts_nil) (fun _ _ _ _ _ => (de_kn (G_extension.mono (by decide)) hr (da_cons (de_var 0) (da_cons (de_var 4) (da_cons (de_var 3) da_nil)))))))))) p_last_numbers
theorem sc_does_open : FnScope N_does_open ["p", "value", "told"] (defScope s_does_open) := ⟨rfl, rfl, rfl, by decide +kernel, rfl, by decide +kernel, by decide +kernel⟩
theorem ok_does_open {f : Addr} {fd : FuncData} (F : Fun K "does_open" "does_open" s_does_open f fd) (T : Txt w K mg)  : FnOk P w K mg base CX0 1 f fd ["p", "value", "told"] (liftF K sp_does_open) :=
 fnD F sc_does_open len_does_open (fun cdv A outer s H E hr =>
 (dss_one (ds_ret (de_cmp (op_eqD hr.units) ad_eqU (de_op op_modN ad_mod (de_op op_sub ad_sub (de_op op_addU ad_add (de_ix (de_var 2) de_int) (de_ix (de_var 2) de_int)) (de_var 1)) (de_var 0)) de_int (nomark _))))) p_does_open
theorem sc_next_value : FnScope N_next_value ["p", "told", "challenge"] (defScope s_next_value) := ⟨rfl, rfl, rfl, by decide +kernel, rfl, by decide +kernel, by decide +kernel⟩
theorem ok_next_value {f : Addr} {fd : FuncData} (F : Fun K "next_value" "next_value" s_next_value f fd) (T : Txt w K mg) (G_value_at : Kn P w K mg base "value_at" 4 sp_value_at) : FnOk P w K mg base CX0 5 f fd ["p", "told", "challenge"] (liftF K sp_next_value) :=
 fnD F sc_next_value len_next_value (fun cdv A outer s H E hr =>
 (dss_one (ds_ret (de_kn (G_value_at.mono (by decide)) hr (da_cons (de_var 0) (da_cons (de_var 1) (da_cons (de_var 2) da_nil))))))) p_next_value
theorem sc_values_ahead : FnScope N_values_ahead ["p", "value", "rounds", "challenges"] (defScope s_values_ahead) := ⟨rfl, rfl, rfl, by decide +kernel, rfl, by decide +kernel, by decide +kernel⟩
theorem ok_values_ahead {f : Addr} {fd : FuncData} (F : Fun K "values_ahead" "values_ahead" s_values_ahead f fd) (T : Txt w K mg) (G_next_value : Kn P w K mg base "next_value" 5 sp_next_value) : FnOk P w K mg base CX0 6 f fd ["p", "value", "rounds", "challenges"] (liftF K sp_values_ahead) :=
 fnD F sc_values_ahead len_values_ahead (fun cdv A outer s H E hr =>
 (dss_cons (ds_set 4 sc_values_ahead.nd rfl (by first | exact Or.inl rfl | exact Or.inr rfl) (de_lst (da_cons (de_var 1) da_nil)))
 (dss_cons (ds_for PassesOwn.never rfl (di_zip2 rfl T.b_zip (da_cons (de_var 2) (da_cons (de_var 3) da_nil))) (dg_tup rfl (dgs_cons (dg_name 5 sc_values_ahead.nd rfl (by first | exact Or.inl rfl | exact Or.inr rfl)) (dgs_cons (dg_name 6 sc_values_ahead.nd rfl (by first | exact Or.inl rfl | exact Or.inr rfl)) dgs_nil)))
 (dss_one (ds_expr (de_meth (pe_bm PySem.F.plainAttrs_list PySem.F.slot_list_append PySem.F.type_list_append mt_append (de_var 4) (da_cons (de_kn (G_next_value.mono (by decide)) hr (da_cons (de_var 0) (da_cons (de_var 5) (da_cons (de_var 6) da_nil)))) da_nil)) ad_append))))
 (dss_one (ds_ret (de_var 4)))))) p_values_ahead
theorem sc_round_fault : FnScope N_round_fault ["p", "value", "rounds", "challenges"] (defScope s_round_fault) := ⟨rfl, rfl, rfl, by decide +kernel, rfl, by decide +kernel, by decide +kernel⟩
theorem ok_round_fault {f : Addr} {fd : FuncData} (F : Fun K "round_fault" "round_fault" s_round_fault f fd) (T : Txt w K mg) (G_values_ahead : Kn P w K mg base "values_ahead" 6 sp_values_ahead) (G_does_open : Kn P w K mg base "does_open" 1 sp_does_open) : FnOk P w K mg base CX0 7 f fd ["p", "value", "rounds", "challenges"] (liftF K sp_round_fault) :=
 fnD F sc_round_fault len_round_fault (fun cdv A outer s H E hr =>
 (dss_cons (ds_for PassesOwn.never rfl (di_enumZ rfl T.b_zip rfl T.b_enumerate (da_cons (de_kn (G_values_ahead.mono (by decide)) hr (da_cons (de_var 0) (da_cons (de_var 1) (da_cons (de_var 2) (da_cons (de_var 3) da_nil))))) (da_cons (de_var 2) da_nil))) (dg_tup rfl (dgs_cons (dg_name 4 sc_round_fault.nd rfl (by first | exact Or.inl rfl | exact Or.inr rfl)) (dgs_cons (dg_tup rfl (dgs_cons (dg_name 5 sc_round_fault.nd rfl (by first | exact Or.inl rfl | exact Or.inr rfl)) (dgs_cons (dg_name 6 sc_round_fault.nd rfl (by first | exact Or.inl rfl | exact Or.inr rfl)) dgs_nil))) dgs_nil)))
 (dss_one (ds_if (dt_not (dt_val (de_kn (G_does_open.mono (by decide)) hr (da_cons (de_var 0) (da_cons (de_var 5) (da_cons (de_var 6) da_nil))))))
 (dss_one (ds_ret (de_var 4)))
 dss_nil)))
 (dss_one (ds_ret de_non)))) p_round_fault
theorem sc_last_value : FnScope N_last_value ["p", "value", "rounds", "challenges"] (defScope s_last_value) := ⟨rfl, rfl, rfl, by decide +kernel, rfl, by decide +kernel, by decide +kernel⟩
theorem ok_last_value {f : Addr} {fd : FuncData} (F : Fun K "last_value" "last_value" s_last_value f fd) (T : Txt w K mg) (G_values_ahead : Kn P w K mg base "values_ahead" 6 sp_values_ahead) : FnOk P w K mg base CX0 7 f fd ["p", "value", "rounds", "challenges"] (liftF K sp_last_value) :=
 fnD F sc_last_value len_last_value (fun cdv A outer s H E hr =>
 (dss_one (ds_ret (de_ix (de_kn (G_values_ahead.mono (by decide)) hr (da_cons (de_var 0) (da_cons (de_var 1) (da_cons (de_var 2) (da_cons (de_var 3) da_nil))))) (de_un un_neg ad_neg de_int))))) p_last_value
theorem sc_missed : FnScope N_missed ["p", "word", "tables", "value", "rounds", "challenges"] (defScope s_missed) := ⟨rfl, rfl, rfl, by decide +kernel, rfl, by decide +kernel, by decide +kernel⟩
theorem ok_missed {f : Addr} {fd : FuncData} (F : Fun K "missed" "missed" s_missed f fd) (T : Txt w K mg) (G_values_ahead : Kn P w K mg base "values_ahead" 6 sp_values_ahead) (G_rest_sum : Kn P w K mg base "rest_sum" 4 sp_rest_sum) : FnOk P w K mg base CX0 7 f fd ["p", "word", "tables", "value", "rounds", "challenges"] (liftF K sp_missed) :=
 fnD F sc_missed len_missed (fun cdv A outer s H E hr =>
 (dss_cons (ds_set 6 sc_missed.nd rfl (by first | exact Or.inl rfl | exact Or.inr rfl) (de_kn (G_values_ahead.mono (by decide)) hr (da_cons (de_var 0) (da_cons (de_var 3) (da_cons (de_var 4) (da_cons (de_var 5) da_nil))))))
 (dss_cons (ds_set 7 sc_missed.nd rfl (by first | exact Or.inl rfl | exact Or.inr rfl) (de_lcE (dl_lc rfl sc_missed.nd (di_enum rfl T.b_enumerate (da_cons (de_var 6) da_nil)) (blkOk_by (own := [("at", 9), ("here", 10)]) (N := N_missed) (sc := defScope s_missed) (by decide +kernel)) (by decide) (fun _ _ _ _ _ => (dg_tup rfl (dgs_cons (dg_name 9 sc_missed.nd rfl (by first | exact Or.inl rfl | exact Or.inr rfl)) (dgs_cons (dg_name 10 sc_missed.nd rfl (by first | exact Or.inl rfl | exact Or.inr rfl)) dgs_nil)))) (fun _ _ _ _ _ => dts_nil) (fun _ _ _ _ _ => (de_cmp (op_eqD hr.units) ad_eqU (de_var 10) (de_kn (G_rest_sum.mono (by decide)) hr (da_cons (de_var 0) (da_cons (de_var 1) (da_cons (de_var 2) (da_cons (de_slice (de_var 5) do_none (do_some (de_var 9))) da_nil))))) (nomark _))))))
 (dss_cons (ds_lc 8 rfl sc_missed.nd rfl rfl (sw_true rfl rfl rfl (by decide +kernel)) (di_range1 rfl T.b_range (da_cons (de_callB call_len ad_len rfl T.b_len bt_len (da_cons (de_var 4) da_nil)) da_nil)) (blkOk_by (own := [("at", 9)]) (N := N_missed) (sc := defScope s_missed) (by decide +kernel)) (by decide) (fun _ _ _ _ _ => (dg_name 9 sc_missed.nd rfl (by first | exact Or.inl rfl | exact Or.inr rfl))) (fun _ _ _ _ _ => (dts_one (dt_w (dw_and (dt_not (dt_val (de_ix (de_var 7) (de_var 9)))) (dw_and1 (dt_val (de_ix (de_var 7) (de_op op_addU ad_add (de_var 9) de_int)))))))) (fun _ _ _ _ _ => (de_var 9)))
 (dss_one (ds_ret (de_ifExp (dt_cmp (op_neD hr.units) ad_neU (de_var 8) (de_lst da_nil) (nomark _)) (de_ix (de_var 8) de_int) de_non))))))) p_missed
theorem sc__law_bag : FnScope N__law_bag ["script"] (defScope s__law_bag) := ⟨rfl, rfl, rfl, by decide +kernel, rfl, by decide +kernel, by decide +kernel⟩
theorem ok__law_bag {f : Addr} {fd : FuncData} (F : Fun K "_law_bag" "_law_bag" s__law_bag f fd) (T : Txt w K mg)  : FnOk P w K mg base CX0 1 f fd ["script"] (liftF K sp__law_bag) :=
 fnD F sc__law_bag len__law_bag (fun cdv A outer s H E hr =>
 (dss_one (ds_ret (de_lst (da_cons de_int (da_cons de_int (da_cons de_int (da_cons (de_lcE (dl_lc rfl sc__law_bag.nd (di_seq (de_slice (de_var 0) do_none (do_some de_int))) (blkOk_by (own := [("cell", 1)]) (N := N__law_bag) (sc := defScope s__law_bag) (by decide +kernel)) (by decide) (fun _ _ _ _ _ => (dg_name 1 sc__law_bag.nd rfl (by first | exact Or.inl rfl | exact Or.inr rfl))) (fun _ _ _ _ _ => dts_nil) (fun _ _ _ _ _ => (de_callB call_abs ad_abs rfl T.b_abs bt_abs (da_cons (de_var 1) da_nil))))) da_nil)))))))) p__law_bag
theorem sc__law_take : FnScope N__law_take ["bag", "many"] (defScope s__law_take) := ⟨rfl, rfl, rfl, by decide +kernel, rfl, by decide +kernel, by decide +kernel⟩
theorem ok__law_take {f : Addr} {fd : FuncData} (F : Fun K "_law_take" "_law_take" s__law_take f fd) (T : Txt w K mg)  : FnOk P w K mg base CX0 1 f fd ["bag", "many"] (liftF K sp__law_take) :=
 fnD F sc__law_take len__law_take (fun cdv A outer s H E hr =>
 (dss_cons (ds_if (dt_cmp (op_eqD hr.units) ad_eqU (de_ix (de_var 0) de_int) de_int (nomark _))
 (dss_cons (ds_set 2 sc__law_take.nd rfl (by first | exact Or.inl rfl | exact Or.inr rfl) (de_ix (de_op op_addU ad_add (de_slice (de_ix (de_var 0) de_int) (do_some (de_ix (de_var 0) de_int)) do_none) (de_lst (da_cons de_int da_nil))) de_int))
 (dss_cons (ds_augI ip_add ad_ipadd (de_var 0) de_int de_int)
 (dss_cons (ds_if (dt_cmp op_ge ad_ge (de_var 2) (de_op op_pow ad_pow de_int de_int) (nomark _))
 (dss_one (ds_asg (de_var 2) (dg_sub (pg_sub (de_var 0) de_int set_list))))
 dss_nil)
 (dss_cons (ds_set 3 sc__law_take.nd rfl (by first | exact Or.inl rfl | exact Or.inr rfl) (de_op op_addU ad_add (de_op op_addU ad_add (de_op op_mulU ad_mul (de_ix (de_var 0) de_int) de_int) (de_op op_modN ad_mod (de_callTy call_int1 ad_int rfl T.b_int bt_int (da_cons (de_var 2) da_nil)) de_int)) (de_op op_mulU ad_mul de_int (de_ix (de_var 0) de_int))))
 (dss_one (ds_asg (de_op op_modN ad_mod (de_callTy call_int1 ad_int rfl T.b_int bt_int (da_cons (de_var 3) da_nil)) de_int) (dg_sub (pg_sub (de_var 0) de_int set_list))))))))
 dss_nil)
 (dss_cons (ds_if (dt_cmp op_gt ad_gt (de_ix (de_var 0) de_int) de_int (nomark _))
 (dss_cons (ds_set 4 sc__law_take.nd rfl (by first | exact Or.inl rfl | exact Or.inr rfl) (de_op op_modN ad_mod (de_callTy call_int1 ad_int rfl T.b_int bt_int (da_cons (de_ix (de_var 0) de_int) da_nil)) (de_var 1)))
 (dss_cons (ds_asg (de_op op_fdivW ad_divW (de_callTy call_int1 ad_int rfl T.b_int bt_int (da_cons (de_ix (de_var 0) de_int) da_nil)) (de_var 1)) (dg_sub (pg_sub (de_var 0) de_int set_list)))
 (dss_one (ds_ret (de_var 4)))))
 dss_nil)
 (dss_cons (ds_set 5 sc__law_take.nd rfl (by first | exact Or.inl rfl | exact Or.inr rfl) (de_op op_modN ad_mod (de_callTy call_int1 ad_int rfl T.b_int bt_int (da_cons (de_op op_mulU ad_mul (de_op op_addU ad_add (de_ix (de_var 0) de_int) de_int) de_int) da_nil)) de_int))
 (dss_cons (ds_set 6 sc__law_take.nd rfl (by first | exact Or.inl rfl | exact Or.inr rfl) (de_op op_modN ad_mod (de_callTy call_int1 ad_int rfl T.b_int bt_int (da_cons (de_op op_mulU ad_mul (de_op op_modN ad_mod (de_callTy call_int1 ad_int rfl T.b_int bt_int (da_cons (de_op op_mulU ad_mul (de_var 5) (de_var 5)) da_nil)) de_int) de_int) da_nil)) de_int))
 (dss_one (ds_ret (de_op op_modN ad_mod (de_callTy call_int1 ad_int rfl T.b_int bt_int (da_cons (de_op op_fdivW ad_divW (de_var 6) de_int) da_nil)) (de_var 1))))))))) p__law_take
theorem sc__law_some : FnScope N__law_some ["bag", "things"] (defScope s__law_some) := ⟨rfl, rfl, rfl, by decide +kernel, rfl, by decide +kernel, by decide +kernel⟩
theorem ok__law_some {f : Addr} {fd : FuncData} (F : Fun K "_law_some" "_law_some" s__law_some f fd) (T : Txt w K mg) (G__law_take : Kn P w K mg base "_law_take" 1 sp__law_take) : FnOk P w K mg base CX0 2 f fd ["bag", "things"] (liftF K sp__law_some) :=
 fnD F sc__law_some len__law_some (fun cdv A outer s H E hr =>
 (dss_one (ds_ret (de_ix (de_var 1) (de_kn (G__law_take.mono (by decide)) hr (da_cons (de_var 0) (da_cons (de_callB call_len ad_len rfl T.b_len bt_len (da_cons (de_var 1) da_nil)) da_nil))))))) p__law_some
theorem sc__law_alike : FnScope N__law_alike ["found", "due"] (defScope s__law_alike) := ⟨rfl, rfl, rfl, by decide +kernel, rfl, by decide +kernel, by decide +kernel⟩
theorem ok__law_alike {f : Addr} {fd : FuncData} (F : Fun K "_law_alike" "_law_alike" s__law_alike f fd) (T : Txt w K mg)  : FnOk P w K mg base CX0 1 f fd ["found", "due"] (liftF K sp__law_alike) :=
 fnD F sc__law_alike len__law_alike (fun cdv A outer s H E hr =>
 (dss_cons (ds_par 2 3 rfl sc__law_alike.nd rfl rfl (by decide) rfl rfl (da_cons (de_lst (da_cons (de_tup (da_cons (de_var 0) (da_cons (de_var 1) da_nil))) da_nil)) (da_cons de_int da_nil)) (by rfl))
 (dss_cons (ds_while PassesOwn.never (dt_cmp op_lt ad_lt (de_var 3) (de_callB call_len ad_len rfl T.b_len bt_len (da_cons (de_var 2) da_nil)) (nomark _))
 (dss_cons (ds_asg (de_ix (de_var 2) (de_var 3)) (dg_tup rfl (dgs_cons (dg_name 4 sc__law_alike.nd rfl (by first | exact Or.inl rfl | exact Or.inr rfl)) (dgs_cons (dg_name 5 sc__law_alike.nd rfl (by first | exact Or.inl rfl | exact Or.inr rfl)) dgs_nil))))
 (dss_cons (ds_aug 3 ip_add ad_ipadd sc__law_alike.nd rfl (by first | exact Or.inl rfl | exact Or.inr rfl) de_int)
 (dss_cons (ds_if (dt_w (dw_or (dt_cmp (op_neD hr.units) ad_neU (de_callB call_isi ad_isi rfl T.b_isinstance bt_isinstance (da_cons (de_var 4) (da_cons (de_ty rfl T.b_bool bt_bool) da_nil))) (de_callB call_isi ad_isi rfl T.b_isinstance bt_isinstance (da_cons (de_var 5) (da_cons (de_ty rfl T.b_bool bt_bool) da_nil))) (nomark _)) (dw_or1 (dt_cmp (op_neD hr.units) ad_neU (de_callB call_isi ad_isi rfl T.b_isinstance bt_isinstance (da_cons (de_var 4) (da_cons (de_ty rfl T.b_str bt_str) da_nil))) (de_callB call_isi ad_isi rfl T.b_isinstance bt_isinstance (da_cons (de_var 5) (da_cons (de_ty rfl T.b_str bt_str) da_nil))) (nomark _)))))
 (dss_one (ds_ret de_bl))
 dss_nil)
 (dss_cons (ds_if (dt_cmp (op_neD hr.units) ad_neU (de_isiT (ns := ["tuple", "list"]) rfl T.b_isinstance bt_isinstance (de_var 4) (pa_cons (pe_bltn (v := .ty "tuple") rfl T.b_tuple bt_tuple rfl) (pa_cons (pe_bltn (v := .ty "list") rfl T.b_list bt_list rfl) pa_nil)) (fun _ _ _ q => q) (by decide)) (de_isiT (ns := ["tuple", "list"]) rfl T.b_isinstance bt_isinstance (de_var 5) (pa_cons (pe_bltn (v := .ty "tuple") rfl T.b_tuple bt_tuple rfl) (pa_cons (pe_bltn (v := .ty "list") rfl T.b_list bt_list rfl) pa_nil)) (fun _ _ _ q => q) (by decide)) (nomark _))
 (dss_one (ds_ret de_bl))
 dss_nil)
 (dss_one (ds_if (dt_val (de_isiT (ns := ["tuple", "list"]) rfl T.b_isinstance bt_isinstance (de_var 4) (pa_cons (pe_bltn (v := .ty "tuple") rfl T.b_tuple bt_tuple rfl) (pa_cons (pe_bltn (v := .ty "list") rfl T.b_list bt_list rfl) pa_nil)) (fun _ _ _ q => q) (by decide)))
 (dss_cons (ds_if (dt_w (dw_or (dt_cmp (op_neD hr.units) ad_neU (de_callB call_isi ad_isi rfl T.b_isinstance bt_isinstance (da_cons (de_var 4) (da_cons (de_ty rfl T.b_tuple bt_tuple) da_nil))) (de_callB call_isi ad_isi rfl T.b_isinstance bt_isinstance (da_cons (de_var 5) (da_cons (de_ty rfl T.b_tuple bt_tuple) da_nil))) (nomark _)) (dw_or1 (dt_cmp (op_neD hr.units) ad_neU (de_callB call_len ad_len rfl T.b_len bt_len (da_cons (de_var 4) da_nil)) (de_callB call_len ad_len rfl T.b_len bt_len (da_cons (de_var 5) da_nil)) (nomark _)))))
 (dss_one (ds_ret de_bl))
 dss_nil)
 (dss_one (ds_expr (de_meth (pe_bm PySem.F.plainAttrs_list PySem.F.slot_list_extend PySem.F.type_list_extend mt_extend (de_var 2) (da_cons (de_listZip rfl T.b_list rfl T.b_zip rfl (da_cons (de_var 4) (da_cons (de_var 5) da_nil))) da_nil)) ad_extend))))
 (dss_one (ds_if (dt_cmp (op_neD hr.units) ad_neU (de_var 4) (de_var 5) (nomark _))
 (dss_one (ds_ret de_bl))
 dss_nil)))))))))
 (dss_one (ds_ret de_bl))))) p__law_alike
theorem sc__law_inverse : FnScope N__law_inverse ["p", "one"] (defScope s__law_inverse) := ⟨rfl, rfl, rfl, by decide +kernel, rfl, by decide +kernel, by decide +kernel⟩
theorem ok__law_inverse {f : Addr} {fd : FuncData} (F : Fun K "_law_inverse" "_law_inverse" s__law_inverse f fd) (T : Txt w K mg)  : FnOk P w K mg base CX0 1 f fd ["p", "one"] (liftF K sp__law_inverse) :=
 fnD F sc__law_inverse len__law_inverse (fun cdv A outer s H E hr =>
 (dss_cons (ds_par3 2 3 4 rfl sc__law_inverse.nd rfl rfl rfl (by decide) (by decide) (by decide) rfl rfl rfl (da_cons de_int (da_cons (de_op op_modN ad_mod (de_callTy call_int1 ad_int rfl T.b_int bt_int (da_cons (de_var 1) da_nil)) (de_var 0)) (da_cons (de_op op_sub ad_sub (de_var 0) de_int) da_nil))) (by rfl))
 (dss_cons (ds_while PassesOwn.never (dt_cmp op_gt ad_gt (de_var 4) de_int (nomark _))
 (dss_cons (ds_if (dt_cmp (op_eqD hr.units) ad_eqU (de_op op_modN ad_mod (de_callTy call_int1 ad_int rfl T.b_int bt_int (da_cons (de_var 4) da_nil)) de_int) de_int (nomark _))
 (dss_one (ds_set 2 sc__law_inverse.nd rfl (by first | exact Or.inl rfl | exact Or.inr rfl) (de_op op_modN ad_mod (de_callTy call_int1 ad_int rfl T.b_int bt_int (da_cons (de_op op_mulU ad_mul (de_var 2) (de_var 3)) da_nil)) (de_var 0))))
 dss_nil)
 (dss_one (ds_par 3 4 rfl sc__law_inverse.nd rfl rfl (by decide) rfl rfl (da_cons (de_op op_modN ad_mod (de_callTy call_int1 ad_int rfl T.b_int bt_int (da_cons (de_op op_mulU ad_mul (de_var 3) (de_var 3)) da_nil)) (de_var 0)) (da_cons (de_op op_fdivN ad_div (de_callTy call_int1 ad_int rfl T.b_int bt_int (da_cons (de_var 4) da_nil)) de_int) da_nil)) (by rfl)))))
 (dss_one (ds_ret (de_var 2)))))) p__law_inverse
theorem sc__law_curve : FnScope N__law_curve ["p", "values", "number"] (defScope s__law_curve) := ⟨rfl, rfl, rfl, by decide +kernel, rfl, by decide +kernel, by decide +kernel⟩
theorem ok__law_curve {f : Addr} {fd : FuncData} (F : Fun K "_law_curve" "_law_curve" s__law_curve f fd) (T : Txt w K mg) (G__law_inverse : Kn P w K mg base "_law_inverse" 1 sp__law_inverse) : FnOk P w K mg base CX0 2 f fd ["p", "values", "number"] (liftF K sp__law_curve) :=
 fnD F sc__law_curve len__law_curve (fun cdv A outer s H E hr =>
 (dss_cons (ds_set 3 sc__law_curve.nd rfl (by first | exact Or.inl rfl | exact Or.inr rfl) de_int)
 (dss_cons (ds_for PassesOwn.never rfl (di_enum rfl T.b_enumerate (da_cons (de_var 1) da_nil)) (dg_tup rfl (dgs_cons (dg_name 4 sc__law_curve.nd rfl (by first | exact Or.inl rfl | exact Or.inr rfl)) (dgs_cons (dg_name 5 sc__law_curve.nd rfl (by first | exact Or.inl rfl | exact Or.inr rfl)) dgs_nil)))
 (dss_cons (ds_par 6 7 rfl sc__law_curve.nd rfl rfl (by decide) rfl rfl (da_cons (de_var 5) (da_cons de_int da_nil)) (by rfl))
 (dss_cons (ds_for PassesOwn.never rfl (di_range1 rfl T.b_range (da_cons (de_callB call_len ad_len rfl T.b_len bt_len (da_cons (de_var 1) da_nil)) da_nil)) (dg_name 8 sc__law_curve.nd rfl (by first | exact Or.inl rfl | exact Or.inr rfl))
 (dss_one (ds_if (dt_cmp (op_neD hr.units) ad_neU (de_var 8) (de_var 4) (nomark _))
 (dss_one (ds_par 6 7 rfl sc__law_curve.nd rfl rfl (by decide) rfl rfl (da_cons (de_op op_modN ad_mod (de_callTy call_int1 ad_int rfl T.b_int bt_int (da_cons (de_op op_mulU ad_mul (de_var 6) (de_op op_sub ad_sub (de_var 2) (de_var 8))) da_nil)) (de_var 0)) (da_cons (de_op op_modN ad_mod (de_callTy call_int1 ad_int rfl T.b_int bt_int (da_cons (de_op op_mulU ad_mul (de_var 7) (de_op op_sub ad_sub (de_var 4) (de_var 8))) da_nil)) (de_var 0)) da_nil)) (by rfl)))
 dss_nil)))
 (dss_one (ds_set 3 sc__law_curve.nd rfl (by first | exact Or.inl rfl | exact Or.inr rfl) (de_op op_modN ad_mod (de_callTy call_int1 ad_int rfl T.b_int bt_int (da_cons (de_op op_addU ad_add (de_var 3) (de_op op_mulU ad_mul (de_var 6) (de_kn (G__law_inverse.mono (by decide)) hr (da_cons (de_var 0) (da_cons (de_var 7) da_nil))))) da_nil)) (de_var 0)))))))
 (dss_one (ds_ret (de_var 3)))))) p__law_curve
theorem sc__law_bits : FnScope N__law_bits ["index", "many"] (defScope s__law_bits) := ⟨rfl, rfl, rfl, by decide +kernel, rfl, by decide +kernel, by decide +kernel⟩
theorem ok__law_bits {f : Addr} {fd : FuncData} (F : Fun K "_law_bits" "_law_bits" s__law_bits f fd) (T : Txt w K mg)  : FnOk P w K mg base CX0 1 f fd ["index", "many"] (liftF K sp__law_bits) :=
 fnD F sc__law_bits len__law_bits (fun cdv A outer s H E hr =>
 (dss_one (ds_ret (de_lcE (dl_lc rfl sc__law_bits.nd (di_range1 rfl T.b_range (da_cons (de_var 1) da_nil)) (blkOk_by (own := [("at", 2)]) (N := N__law_bits) (sc := defScope s__law_bits) (by decide +kernel)) (by decide) (fun _ _ _ _ _ => (dg_name 2 sc__law_bits.nd rfl (by first | exact Or.inl rfl | exact Or.inr rfl))) (fun _ _ _ _ _ => dts_nil) (fun _ _ _ _ _ => (de_op op_modN ad_mod (de_callTy call_int1 ad_int rfl T.b_int bt_int (da_cons (de_op op_shr ad_shr (de_var 0) (de_op op_sub ad_sub (de_op op_sub ad_sub (de_var 1) de_int) (de_var 2))) da_nil)) de_int))))))) p__law_bits
theorem sc__law_weight : FnScope N__law_weight ["p", "bits", "point"] (defScope s__law_weight) := ⟨rfl, rfl, rfl, by decide +kernel, rfl, by decide +kernel, by decide +kernel⟩
theorem ok__law_weight {f : Addr} {fd : FuncData} (F : Fun K "_law_weight" "_law_weight" s__law_weight f fd) (T : Txt w K mg)  : FnOk P w K mg base CX0 1 f fd ["p", "bits", "point"] (liftF K sp__law_weight) :=
 fnD F sc__law_weight len__law_weight (fun cdv A outer s H E hr =>
 (dss_cons (ds_set 3 sc__law_weight.nd rfl (by first | exact Or.inl rfl | exact Or.inr rfl) de_int)
 (dss_cons (ds_for PassesOwn.never rfl (di_zip2 rfl T.b_zip (da_cons (de_var 1) (da_cons (de_var 2) da_nil))) (dg_tup rfl (dgs_cons (dg_name 4 sc__law_weight.nd rfl (by first | exact Or.inl rfl | exact Or.inr rfl)) (dgs_cons (dg_name 5 sc__law_weight.nd rfl (by first | exact Or.inl rfl | exact Or.inr rfl)) dgs_nil)))
 (dss_one (ds_set 3 sc__law_weight.nd rfl (by first | exact Or.inl rfl | exact Or.inr rfl) (de_op op_modN ad_mod (de_callTy call_int1 ad_int rfl T.b_int bt_int (da_cons (de_op op_mulU ad_mul (de_var 3) (de_ifExp (dt_cmp (op_eqD hr.units) ad_eqU (de_var 4) de_int (nomark _)) (de_var 5) (de_op op_sub ad_sub de_int (de_var 5)))) da_nil)) (de_var 0)))))
 (dss_one (ds_ret (de_var 3)))))) p__law_weight
theorem sc__law_extension : FnScope N__law_extension ["p", "table", "point"] (defScope s__law_extension) := ⟨rfl, rfl, rfl, by decide +kernel, rfl, by decide +kernel, by decide +kernel⟩
theorem ok__law_extension {f : Addr} {fd : FuncData} (F : Fun K "_law_extension" "_law_extension" s__law_extension f fd) (T : Txt w K mg) (G__law_weight : Kn P w K mg base "_law_weight" 1 sp__law_weight) (G__law_bits : Kn P w K mg base "_law_bits" 1 sp__law_bits) : FnOk P w K mg base CX0 2 f fd ["p", "table", "point"] (liftF K sp__law_extension) :=
 fnD F sc__law_extension len__law_extension (fun cdv A outer s H E hr =>
 (dss_cons (ds_set 3 sc__law_extension.nd rfl (by first | exact Or.inl rfl | exact Or.inr rfl) (de_callB call_len ad_len rfl T.b_len bt_len (da_cons (de_var 2) da_nil)))
 (dss_one (ds_ret (de_op op_modN ad_mod (de_callTy call_int1 ad_int rfl T.b_int bt_int (da_cons (de_lcS rfl rfl T.b_sum bt_sum (dl_lc rfl sc__law_extension.nd (di_enum rfl T.b_enumerate (da_cons (de_var 1) da_nil)) (blkOk_by (own := [("at", 4), ("number", 5)]) (N := N__law_extension) (sc := defScope s__law_extension) (by decide +kernel)) (by decide) (fun _ _ _ _ _ => (dg_tup rfl (dgs_cons (dg_name 4 sc__law_extension.nd rfl (by first | exact Or.inl rfl | exact Or.inr rfl)) (dgs_cons (dg_name 5 sc__law_extension.nd rfl (by first | exact Or.inl rfl | exact Or.inr rfl)) dgs_nil)))) (fun _ _ _ _ _ => dts_nil) (fun _ _ _ _ _ => (de_op op_mulU ad_mul (de_var 5) (de_kn (G__law_weight.mono (by decide)) hr (da_cons (de_var 0) (da_cons (de_kn (G__law_bits.mono (by decide)) hr (da_cons (de_var 4) (da_cons (de_var 3) da_nil))) (da_cons (de_var 2) da_nil)))))))) da_nil)) (de_var 0)))))) p__law_extension
theorem sc__law_size : FnScope N__law_size ["table"] (defScope s__law_size) := ⟨rfl, rfl, rfl, by decide +kernel, rfl, by decide +kernel, by decide +kernel⟩
theorem ok__law_size {f : Addr} {fd : FuncData} (F : Fun K "_law_size" "_law_size" s__law_size f fd) (T : Txt w K mg)  : FnOk P w K mg base CX0 1 f fd ["table"] (liftF K sp__law_size) :=
 fnD F sc__law_size len__law_size (fun cdv A outer s H E hr =>
 (dss_cons (ds_asg (de_tup (da_cons de_int (da_cons de_int da_nil))) (dg_tup rfl (dgs_cons (dg_name 1 sc__law_size.nd rfl (by first | exact Or.inl rfl | exact Or.inr rfl)) (dgs_cons (dg_name 2 sc__law_size.nd rfl (by first | exact Or.inl rfl | exact Or.inr rfl)) dgs_nil))))
 (dss_cons (ds_while PassesOwn.never (dt_cmp op_lt ad_lt (de_var 2) (de_callB call_len ad_len rfl T.b_len bt_len (da_cons (de_var 0) da_nil)) (nomark _))
 (dss_one (ds_par 1 2 rfl sc__law_size.nd rfl rfl (by decide) rfl rfl (da_cons (de_op op_addU ad_add (de_var 1) de_int) (da_cons (de_op op_mulU ad_mul (de_var 2) de_int) da_nil)) (by rfl))))
 (dss_one (ds_ret (de_var 1)))))) p__law_size
theorem sc__law_all_bits : FnScope N__law_all_bits ["many"] (defScope s__law_all_bits) := ⟨rfl, rfl, rfl, by decide +kernel, rfl, by decide +kernel, by decide +kernel⟩
theorem ok__law_all_bits {f : Addr} {fd : FuncData} (F : Fun K "_law_all_bits" "_law_all_bits" s__law_all_bits f fd) (T : Txt w K mg)  : FnOk P w K mg base CX0 1 f fd ["many"] (liftF K sp__law_all_bits) :=
 fnD F sc__law_all_bits len__law_all_bits (fun cdv A outer s H E hr =>
 (dss_cons (ds_set 1 sc__law_all_bits.nd rfl (by first | exact Or.inl rfl | exact Or.inr rfl) (de_lst (da_cons (de_tup da_nil) da_nil)))
 (dss_cons (ds_for PassesOwn.never rfl (di_range1 rfl T.b_range (da_cons (de_var 0) da_nil)) (dg_name 2 sc__law_all_bits.nd rfl (by first | exact Or.inl rfl | exact Or.inr rfl))
 (dss_cons (ds_set 3 sc__law_all_bits.nd rfl (by first | exact Or.inl rfl | exact Or.inr rfl) (de_lst da_nil))
 (dss_cons (ds_for PassesOwn.never rfl (di_seq (de_var 1)) (dg_name 4 sc__law_all_bits.nd rfl (by first | exact Or.inl rfl | exact Or.inr rfl))
 (dss_one (ds_expr (de_meth (pe_bm PySem.F.plainAttrs_list PySem.F.slot_list_extend PySem.F.type_list_extend mt_extend (de_var 3) (da_cons (de_lst (da_cons (de_op op_addU ad_add (de_var 4) (de_tup (da_cons de_int da_nil))) (da_cons (de_op op_addU ad_add (de_var 4) (de_tup (da_cons de_int da_nil))) da_nil))) da_nil)) ad_extend))))
 (dss_one (ds_set 1 sc__law_all_bits.nd rfl (by first | exact Or.inl rfl | exact Or.inr rfl) (de_var 3))))))
 (dss_one (ds_ret (de_var 1)))))) p__law_all_bits
theorem sc__law_number : FnScope N__law_number ["p", "word", "values"] (defScope s__law_number) := ⟨rfl, rfl, rfl, by decide +kernel, rfl, by decide +kernel, by decide +kernel⟩
theorem ok__law_number {f : Addr} {fd : FuncData} (F : Fun K "_law_number" "_law_number" s__law_number f fd) (T : Txt w K mg)  : FnOk P w K mg base CX0 1 f fd ["p", "word", "values"] (liftF K sp__law_number) :=
 fnD F sc__law_number len__law_number (fun cdv A outer s H E hr =>
 (dss_cons (ds_if (dt_cmp (op_eqD hr.units) ad_eqU (de_var 1) de_str (nomark _))
 (dss_one (ds_ret (de_op op_modN ad_mod (de_callTy call_int1 ad_int rfl T.b_int bt_int (da_cons (de_op op_mulU ad_mul (de_ix (de_var 2) de_int) (de_op op_addU ad_add (de_op op_mulU ad_mul (de_ix (de_var 2) de_int) (de_ix (de_var 2) de_int)) (de_op op_mulU ad_mul (de_op op_sub ad_sub de_int (de_ix (de_var 2) de_int)) (de_ix (de_var 2) de_int)))) da_nil)) (de_var 0))))
 dss_nil)
 (dss_cons (ds_set 3 sc__law_number.nd rfl (by first | exact Or.inl rfl | exact Or.inr rfl) de_int)
 (dss_cons (ds_for PassesOwn.never rfl (di_seq (de_var 2)) (dg_name 4 sc__law_number.nd rfl (by first | exact Or.inl rfl | exact Or.inr rfl))
 (dss_one (ds_set 3 sc__law_number.nd rfl (by first | exact Or.inl rfl | exact Or.inr rfl) (de_op op_modN ad_mod (de_callTy call_int1 ad_int rfl T.b_int bt_int (da_cons (de_op op_mulU ad_mul (de_var 3) (de_var 4)) da_nil)) (de_var 0)))))
 (dss_one (ds_ret (de_var 3))))))) p__law_number
theorem sc__law_rest : FnScope N__law_rest ["p", "word", "tables", "challenges"] (defScope s__law_rest) := ⟨rfl, rfl, rfl, by decide +kernel, rfl, by decide +kernel, by decide +kernel⟩
theorem ok__law_rest {f : Addr} {fd : FuncData} (F : Fun K "_law_rest" "_law_rest" s__law_rest f fd) (T : Txt w K mg) (G__law_size : Kn P w K mg base "_law_size" 1 sp__law_size) (G__law_all_bits : Kn P w K mg base "_law_all_bits" 1 sp__law_all_bits) (G__law_number : Kn P w K mg base "_law_number" 1 sp__law_number) (G__law_extension : Kn P w K mg base "_law_extension" 2 sp__law_extension) : FnOk P w K mg base CX0 3 f fd ["p", "word", "tables", "challenges"] (liftF K sp__law_rest) :=
 fnD F sc__law_rest len__law_rest (fun cdv A outer s H E hr =>
 (dss_cons (ds_par 4 5 rfl sc__law_rest.nd rfl rfl (by decide) rfl rfl (da_cons (de_op op_sub ad_sub (de_kn (G__law_size.mono (by decide)) hr (da_cons (de_ix (de_var 2) de_int) da_nil)) (de_callB call_len ad_len rfl T.b_len bt_len (da_cons (de_var 3) da_nil))) (da_cons de_int da_nil)) (by rfl))
 (dss_cons (ds_for PassesOwn.never rfl (di_seq (de_kn (G__law_all_bits.mono (by decide)) hr (da_cons (de_var 4) da_nil))) (dg_name 6 sc__law_rest.nd rfl (by first | exact Or.inl rfl | exact Or.inr rfl))
 (dss_one (ds_aug 5 ip_add ad_ipadd sc__law_rest.nd rfl (by first | exact Or.inl rfl | exact Or.inr rfl) (de_kn (G__law_number.mono (by decide)) hr (da_cons (de_var 0) (da_cons (de_var 1) (da_cons (de_lcE (dl_lc rfl sc__law_rest.nd (di_seq (de_var 2)) (blkOk_by (own := [("table", 7)]) (N := N__law_rest) (sc := defScope s__law_rest) (by decide +kernel)) (by decide) (fun _ _ _ _ _ => (dg_name 7 sc__law_rest.nd rfl (by first | exact Or.inl rfl | exact Or.inr rfl))) (fun _ _ _ _ _ => dts_nil) (fun _ _ _ _ _ => (de_kn (G__law_extension.mono (by decide)) hr (da_cons (de_var 0) (da_cons (de_var 7) (da_cons (de_op op_addU ad_add (de_var 3) (de_var 6)) da_nil))))))) da_nil)))))))
 (dss_one (ds_ret (de_op op_modN ad_mod (de_callTy call_int1 ad_int rfl T.b_int bt_int (da_cons (de_var 5) da_nil)) (de_var 0))))))) p__law_rest
theorem sc__law_values : FnScope N__law_values ["p", "value", "rounds", "challenges"] (defScope s__law_values) := ⟨rfl, rfl, rfl, by decide +kernel, rfl, by decide +kernel, by decide +kernel⟩
theorem ok__law_values {f : Addr} {fd : FuncData} (F : Fun K "_law_values" "_law_values" s__law_values f fd) (T : Txt w K mg) (G__law_curve : Kn P w K mg base "_law_curve" 2 sp__law_curve) : FnOk P w K mg base CX0 3 f fd ["p", "value", "rounds", "challenges"] (liftF K sp__law_values) :=
 fnD F sc__law_values len__law_values (fun cdv A outer s H E hr =>
 (dss_cons (ds_set 4 sc__law_values.nd rfl (by first | exact Or.inl rfl | exact Or.inr rfl) (de_lst (da_cons (de_var 1) da_nil)))
 (dss_cons (ds_for PassesOwn.never rfl (di_zip2 rfl T.b_zip (da_cons (de_var 2) (da_cons (de_var 3) da_nil))) (dg_tup rfl (dgs_cons (dg_name 5 sc__law_values.nd rfl (by first | exact Or.inl rfl | exact Or.inr rfl)) (dgs_cons (dg_name 6 sc__law_values.nd rfl (by first | exact Or.inl rfl | exact Or.inr rfl)) dgs_nil)))
 (dss_one (ds_expr (de_meth (pe_bm PySem.F.plainAttrs_list PySem.F.slot_list_append PySem.F.type_list_append mt_append (de_var 4) (da_cons (de_kn (G__law_curve.mono (by decide)) hr (da_cons (de_var 0) (da_cons (de_var 5) (da_cons (de_var 6) da_nil)))) da_nil)) ad_append))))
 (dss_one (ds_ret (de_var 4)))))) p__law_values
theorem sc__law_first_fault : FnScope N__law_first_fault ["p", "values", "rounds"] (defScope s__law_first_fault) := ⟨rfl, rfl, rfl, by decide +kernel, rfl, by decide +kernel, by decide +kernel⟩
theorem ok__law_first_fault {f : Addr} {fd : FuncData} (F : Fun K "_law_first_fault" "_law_first_fault" s__law_first_fault f fd) (T : Txt w K mg)  : FnOk P w K mg base CX0 1 f fd ["p", "values", "rounds"] (liftF K sp__law_first_fault) :=
 fnD F sc__law_first_fault len__law_first_fault (fun cdv A outer s H E hr =>
 (dss_cons (ds_for PassesOwn.never rfl (di_enum rfl T.b_enumerate (da_cons (de_var 2) da_nil)) (dg_tup rfl (dgs_cons (dg_name 3 sc__law_first_fault.nd rfl (by first | exact Or.inl rfl | exact Or.inr rfl)) (dgs_cons (dg_name 4 sc__law_first_fault.nd rfl (by first | exact Or.inl rfl | exact Or.inr rfl)) dgs_nil)))
 (dss_one (ds_if (dt_cmp (op_neD hr.units) ad_neU (de_op op_modN ad_mod (de_callTy call_int1 ad_int rfl T.b_int bt_int (da_cons (de_op op_sub ad_sub (de_op op_addU ad_add (de_ix (de_var 4) de_int) (de_ix (de_var 4) de_int)) (de_ix (de_var 1) (de_var 3))) da_nil)) (de_var 0)) de_int (nomark _))
 (dss_one (ds_ret (de_var 3)))
 dss_nil)))
 (dss_one (ds_ret de_non)))) p__law_first_fault
theorem sc__law_first_missed : FnScope N__law_first_missed ["p", "word", "tables", "values", "challenges"] (defScope s__law_first_missed) := ⟨rfl, rfl, rfl, by decide +kernel, rfl, by decide +kernel, by decide +kernel⟩
theorem ok__law_first_missed {f : Addr} {fd : FuncData} (F : Fun K "_law_first_missed" "_law_first_missed" s__law_first_missed f fd) (T : Txt w K mg) (G__law_rest : Kn P w K mg base "_law_rest" 3 sp__law_rest) : FnOk P w K mg base CX0 4 f fd ["p", "word", "tables", "values", "challenges"] (liftF K sp__law_first_missed) :=
 fnD F sc__law_first_missed len__law_first_missed (fun cdv A outer s H E hr =>
 (dss_cons (ds_set 5 sc__law_first_missed.nd rfl (by first | exact Or.inl rfl | exact Or.inr rfl) (de_lcE (dl_lc rfl sc__law_first_missed.nd (di_range1 rfl T.b_range (da_cons (de_callB call_len ad_len rfl T.b_len bt_len (da_cons (de_var 3) da_nil)) da_nil)) (blkOk_by (own := [("at", 7)]) (N := N__law_first_missed) (sc := defScope s__law_first_missed) (by decide +kernel)) (by decide) (fun _ _ _ _ _ => (dg_name 7 sc__law_first_missed.nd rfl (by first | exact Or.inl rfl | exact Or.inr rfl))) (fun _ _ _ _ _ => dts_nil) (fun _ _ _ _ _ => (de_cmp (op_eqD hr.units) ad_eqU (de_ix (de_var 3) (de_var 7)) (de_kn (G__law_rest.mono (by decide)) hr (da_cons (de_var 0) (da_cons (de_var 1) (da_cons (de_var 2) (da_cons (de_slice (de_var 4) do_none (do_some (de_var 7))) da_nil))))) (nomark _))))))
 (dss_cons (ds_lc 6 rfl sc__law_first_missed.nd rfl rfl (sw_true rfl rfl rfl (by decide +kernel)) (di_range1 rfl T.b_range (da_cons (de_op op_sub ad_sub (de_callB call_len ad_len rfl T.b_len bt_len (da_cons (de_var 3) da_nil)) de_int) da_nil)) (blkOk_by (own := [("at", 7)]) (N := N__law_first_missed) (sc := defScope s__law_first_missed) (by decide +kernel)) (by decide) (fun _ _ _ _ _ => (dg_name 7 sc__law_first_missed.nd rfl (by first | exact Or.inl rfl | exact Or.inr rfl))) (fun _ _ _ _ _ => (dts_one (dt_w (dw_and (dt_not (dt_val (de_ix (de_var 5) (de_var 7)))) (dw_and1 (dt_val (de_ix (de_var 5) (de_op op_addU ad_add (de_var 7) de_int)))))))) (fun _ _ _ _ _ => (de_var 7)))
 (dss_one (ds_ret (de_ifExp (dt_cmp (op_neD hr.units) ad_neU (de_var 6) (de_lst da_nil) (nomark _)) (de_ix (de_var 6) de_int) de_non)))))) p__law_first_missed
theorem sc__law_false_rounds : FnScope N__law_false_rounds ["bag", "p", "word", "tables", "value", "degree", "bits"] (defScope s__law_false_rounds) := ⟨rfl, rfl, rfl, by decide +kernel, rfl, by decide +kernel, by decide +kernel⟩
theorem ok__law_false_rounds {f : Addr} {fd : FuncData} (F : Fun K "_law_false_rounds" "_law_false_rounds" s__law_false_rounds f fd) (T : Txt w K mg) (G__law_rest : Kn P w K mg base "_law_rest" 3 sp__law_rest) (G__law_take : Kn P w K mg base "_law_take" 1 sp__law_take) (G__law_curve : Kn P w K mg base "_law_curve" 2 sp__law_curve) (G__law_some : Kn P w K mg base "_law_some" 2 sp__law_some) : FnOk P w K mg base CX0 4 f fd ["bag", "p", "word", "tables", "value", "degree", "bits"] (liftF K sp__law_false_rounds) :=
 fnD F sc__law_false_rounds len__law_false_rounds (fun cdv A outer s H E hr =>
 (dss_cons (ds_asg (de_tup (da_cons (de_lst da_nil) (da_cons (de_tup da_nil) (da_cons (de_var 4) da_nil)))) (dg_tup rfl (dgs_cons (dg_name 7 sc__law_false_rounds.nd rfl (by first | exact Or.inl rfl | exact Or.inr rfl)) (dgs_cons (dg_name 8 sc__law_false_rounds.nd rfl (by first | exact Or.inl rfl | exact Or.inr rfl)) (dgs_cons (dg_name 9 sc__law_false_rounds.nd rfl (by first | exact Or.inl rfl | exact Or.inr rfl)) dgs_nil)))))
 (dss_cons (ds_for PassesOwn.never rfl (di_range1 rfl T.b_range (da_cons (de_var 6) da_nil)) (dg_name 10 sc__law_false_rounds.nd rfl (by first | exact Or.inl rfl | exact Or.inr rfl))
 (dss_cons (ds_set 11 sc__law_false_rounds.nd rfl (by first | exact Or.inl rfl | exact Or.inr rfl) (de_lcE (dl_lc rfl sc__law_false_rounds.nd (di_range1 rfl T.b_range (da_cons (de_op op_addU ad_add (de_var 5) de_int) da_nil)) (blkOk_by (own := [("number", 16)]) (N := N__law_false_rounds) (sc := defScope s__law_false_rounds) (by decide +kernel)) (by decide) (fun _ _ _ _ _ => (dg_name 16 sc__law_false_rounds.nd rfl (by first | exact Or.inl rfl | exact Or.inr rfl))) (fun _ _ _ _ _ => dts_nil) (fun _ _ _ _ _ => (de_kn (G__law_rest.mono (by decide)) hr (da_cons (de_var 1) (da_cons (de_var 2) (da_cons (de_var 3) (da_cons (de_op op_addU ad_add (de_var 8) (de_tup (da_cons (de_var 16) da_nil))) da_nil)))))))))
 (dss_cons (ds_set 12 sc__law_false_rounds.nd rfl (by first | exact Or.inl rfl | exact Or.inr rfl) (de_op op_modN ad_mod (de_callTy call_int1 ad_int rfl T.b_int bt_int (da_cons (de_op op_sub ad_sub (de_op op_sub ad_sub (de_var 9) (de_ix (de_var 11) de_int)) (de_ix (de_var 11) de_int)) da_nil)) (de_var 1)))
 (dss_cons (ds_set 13 sc__law_false_rounds.nd rfl (by first | exact Or.inl rfl | exact Or.inr rfl) (de_callTy call_list_of ad_listOf rfl T.b_list bt_list (da_cons (de_var 11) da_nil)))
 (dss_cons (ds_asg (de_op op_modN ad_mod (de_callTy call_int1 ad_int rfl T.b_int bt_int (da_cons (de_op op_addU ad_add (de_ix (de_var 13) de_int) (de_var 12)) da_nil)) (de_var 1)) (dg_sub (pg_sub (de_var 13) de_int set_list)))
 (dss_cons (ds_if (dt_cmp (op_eqD hr.units) ad_eqU (de_kn (G__law_take.mono (by decide)) hr (da_cons (de_var 0) (da_cons de_int da_nil))) de_int (nomark _))
 (dss_cons (ds_set 13 sc__law_false_rounds.nd rfl (by first | exact Or.inl rfl | exact Or.inr rfl) (de_callTy call_list_of ad_listOf rfl T.b_list bt_list (da_cons (de_var 11) da_nil)))
 (dss_one (ds_asg (de_op op_modN ad_mod (de_callTy call_int1 ad_int rfl T.b_int bt_int (da_cons (de_op op_addU ad_add (de_ix (de_var 13) de_int) (de_var 12)) da_nil)) (de_var 1)) (dg_sub (pg_sub (de_var 13) de_int set_list)))))
 dss_nil)
 (dss_cons (ds_lc 14 rfl sc__law_false_rounds.nd rfl rfl (sw_true rfl rfl rfl (by decide +kernel)) (di_range1 rfl T.b_range (da_cons (de_callB (call_min2 rfl) ad_min2 rfl T.b_min bt_min (da_cons (de_var 1) (da_cons de_int da_nil))) da_nil)) (blkOk_by (own := [("number", 16)]) (N := N__law_false_rounds) (sc := defScope s__law_false_rounds) (by decide +kernel)) (by decide) (fun _ _ _ _ _ => (dg_name 16 sc__law_false_rounds.nd rfl (by first | exact Or.inl rfl | exact Or.inr rfl))) (fun _ _ _ _ _ => (dts_one (dt_cmp (op_eqD hr.units) ad_eqU (de_kn (G__law_curve.mono (by decide)) hr (da_cons (de_var 1) (da_cons (de_var 13) (da_cons (de_var 16) da_nil)))) (de_kn (G__law_curve.mono (by decide)) hr (da_cons (de_var 1) (da_cons (de_var 11) (da_cons (de_var 16) da_nil)))) (nomark _)))) (fun _ _ _ _ _ => (de_var 16)))
 (dss_cons (ds_set 15 sc__law_false_rounds.nd rfl (by first | exact Or.inl rfl | exact Or.inr rfl) (de_ifExp (dt_w (dw_and (dt_cmp (op_neD hr.units) ad_neU (de_var 14) (de_lst da_nil) (nomark _)) (dw_and1 (dt_cmp (op_eqD hr.units) ad_eqU (de_kn (G__law_take.mono (by decide)) hr (da_cons (de_var 0) (da_cons de_int da_nil))) de_int (nomark _))))) (de_kn (G__law_some.mono (by decide)) hr (da_cons (de_var 0) (da_cons (de_var 14) da_nil))) (de_kn (G__law_take.mono (by decide)) hr (da_cons (de_var 0) (da_cons (de_var 1) da_nil)))))
 (dss_cons (ds_expr (de_meth (pe_bm PySem.F.plainAttrs_list PySem.F.slot_list_append PySem.F.type_list_append mt_append (de_var 7) (da_cons (de_callTy call_tuple_of ad_tupleOf rfl T.b_tuple bt_tuple (da_cons (de_var 13) da_nil)) da_nil)) ad_append))
 (dss_one (ds_asg (de_tup (da_cons (de_op op_addU ad_add (de_var 8) (de_tup (da_cons (de_var 15) da_nil))) (da_cons (de_kn (G__law_curve.mono (by decide)) hr (da_cons (de_var 1) (da_cons (de_var 13) (da_cons (de_var 15) da_nil)))) da_nil))) (dg_tup rfl (dgs_cons (dg_name 8 sc__law_false_rounds.nd rfl (by first | exact Or.inl rfl | exact Or.inr rfl)) (dgs_cons (dg_name 9 sc__law_false_rounds.nd rfl (by first | exact Or.inl rfl | exact Or.inr rfl)) dgs_nil))))))))))))))
 (dss_one (ds_ret (de_tup (da_cons (de_callTy call_tuple_of ad_tupleOf rfl T.b_tuple bt_tuple (da_cons (de_var 7) da_nil)) (da_cons (de_var 8) da_nil)))))))) p__law_false_rounds
theorem sc_law : FnScope N_law ["script"] (defScope s_law) := ⟨rfl, rfl, rfl, by decide +kernel, rfl, by decide +kernel, by decide +kernel⟩
theorem ok_law {f : Addr} {fd : FuncData} (F : Fun K "law" "law" s_law f fd) (T : Txt w K mg) (G__law_bag : Kn P w K mg base "_law_bag" 1 sp__law_bag) (G__law_take : Kn P w K mg base "_law_take" 1 sp__law_take) (G__law_some : Kn P w K mg base "_law_some" 2 sp__law_some) (G__law_rest : Kn P w K mg base "_law_rest" 3 sp__law_rest) (G__law_false_rounds : Kn P w K mg base "_law_false_rounds" 4 sp__law_false_rounds) (G__law_values : Kn P w K mg base "_law_values" 3 sp__law_values) (G__law_first_missed : Kn P w K mg base "_law_first_missed" 4 sp__law_first_missed) (G__law_first_fault : Kn P w K mg base "_law_first_fault" 1 sp__law_first_fault) (G_does_open : Kn P w K mg base "does_open" 1 sp_does_open) (G_next_value : Kn P w K mg base "next_value" 5 sp_next_value) (G_last_value : Kn P w K mg base "last_value" 7 sp_last_value) (G_round_fault : Kn P w K mg base "round_fault" 7 sp_round_fault) (G__law_alike : Kn P w K mg base "_law_alike" 1 sp__law_alike) (G_missed : Kn P w K mg base "missed" 7 sp_missed) (G_number_of : Kn P w K mg base "number_of" 1 sp_number_of) (G_last_numbers : Kn P w K mg base "last_numbers" 3 sp_last_numbers) (G_rounds_of : Kn P w K mg base "rounds_of" 5 sp_rounds_of) (G_whole_sum : Kn P w K mg base "whole_sum" 2 sp_whole_sum) : LawOk P w K mg base f fd ["script"] spLaw0 :=
 fnG F sc_law ⟨rfl, by decide, by decide⟩ len_law (fun cdv A outer s H E (hr : Room 7 _) hgd =>
 (dss_cons (ds_set 1 sc_law.nd rfl (by first | exact Or.inl rfl | exact Or.inr rfl) (de_kn (G__law_bag.mono (by decide)) hr (da_cons (de_var 0) da_nil)))
 (dss_cons (ds_for PassesOwn.never rfl (di_range1 rfl T.b_range (da_cons de_int da_nil)) (dg_name 2 sc_law.nd rfl (by first | exact Or.inl rfl | exact Or.inr rfl))
 (dss_cons (ds_asg (de_tup (da_cons (de_kn (G__law_some.mono (by decide)) hr (da_cons (de_var 1) (da_cons (de_lst (da_cons de_int (da_cons de_int (da_cons de_int (da_cons de_int da_nil))))) da_nil))) (da_cons (de_kn (G__law_some.mono (by decide)) hr (da_cons (de_var 1) (da_cons (de_lst (da_cons de_str (da_cons de_str (da_cons de_str (da_cons de_str da_nil))))) da_nil))) (da_cons (de_op op_addU ad_add de_int (de_kn (G__law_take.mono (by decide)) hr (da_cons (de_var 1) (da_cons de_int da_nil)))) da_nil)))) (dg_tup rfl (dgs_cons (dg_name 3 sc_law.nd rfl (by first | exact Or.inl rfl | exact Or.inr rfl)) (dgs_cons (dg_name 4 sc_law.nd rfl (by first | exact Or.inl rfl | exact Or.inr rfl)) (dgs_cons (dg_name 5 sc_law.nd rfl (by first | exact Or.inl rfl | exact Or.inr rfl)) dgs_nil)))))
 (dss_cons (ds_par 6 7 rfl sc_law.nd rfl rfl (by decide) rfl rfl (da_cons (de_dget (u1 hr) (de_disp (.cons de_str de_int (.cons de_str de_int (.cons de_str de_int (.cons de_str de_int .nil))))) (de_var 4)) (da_cons (de_dget (u1 hr) (de_disp (.cons de_str de_int (.cons de_str de_int (.cons de_str de_int (.cons de_str de_int .nil))))) (de_var 4)) da_nil)) (by rfl))
 (dss_cons (ds_set 9 sc_law.nd rfl (by first | exact Or.inl rfl | exact Or.inr rfl) (de_lcT rfl T.b_tuple (dl_lc rfl sc_law.nd (di_range1 rfl T.b_range (da_cons (de_var 6) da_nil)) (blkOk_by (own := [("table", 24)]) (N := N_law) (sc := defScope s_law) (by decide +kernel)) (by decide) (fun _ _ _ _ _ => (dg_name 24 sc_law.nd rfl (by first | exact Or.inl rfl | exact Or.inr rfl))) (fun _ _ _ _ _ => dts_nil) (fun _ _ _ _ _ => (de_lcT rfl T.b_tuple (dl_lc (own := [("at", 8)]) (is := [8]) rfl sc_law.nd (di_range1 rfl T.b_range (da_cons (de_op op_shl ad_shl de_int (de_var 5)) da_nil)) (blkOk_by (own := [("at", 8)]) (N := N_law) (sc := (relS ({ kind := .function, names := [(".0", .local), ("table", .local), ("tuple", .globalImplicit), ("range", .globalImplicit), ("bag", .free), ("bits", .free), ("p", .free)], isGenerator := false, isCoroutine := false } : Scope) (defScope s_law))) (by decide +kernel)) (by decide) (fun _ _ _ _ _ => (dg_name 8 sc_law.nd rfl (by first | exact Or.inl rfl | exact Or.inr rfl))) (fun _ _ _ _ _ => dts_nil) (fun _ _ _ _ _ => (de_kn (G__law_take.mono (by decide)) hr (da_cons (de_var 1) (da_cons (de_var 3) da_nil))))))))))
 (dss_cons (ds_set 10 sc_law.nd rfl (by first | exact Or.inl rfl | exact Or.inr rfl) (de_kn (G__law_rest.mono (by decide)) hr (da_cons (de_var 3) (da_cons (de_var 4) (da_cons (de_var 9) (da_cons (de_tup da_nil) da_nil))))))
 (dss_cons (ds_set 11 sc_law.nd rfl (by first | exact Or.inl rfl | exact Or.inr rfl) (de_kn (G__law_some.mono (by decide)) hr (da_cons (de_var 1) (da_cons (de_lst (da_cons (de_var 10) (da_cons (de_op op_modN ad_mod (de_callTy call_int1 ad_int rfl T.b_int bt_int (da_cons (de_op op_addU ad_add (de_op op_addU ad_add (de_var 10) de_int) (de_kn (G__law_take.mono (by decide)) hr (da_cons (de_var 1) (da_cons (de_op op_sub ad_sub (de_var 3) de_int) da_nil)))) da_nil)) (de_var 3)) (da_cons (de_op op_modN ad_mod (de_callTy call_int1 ad_int rfl T.b_int bt_int (da_cons (de_op op_addU ad_add (de_op op_addU ad_add (de_var 10) de_int) (de_kn (G__law_take.mono (by decide)) hr (da_cons (de_var 1) (da_cons (de_op op_sub ad_sub (de_var 3) de_int) da_nil)))) da_nil)) (de_var 3)) da_nil)))) da_nil))))
 (dss_cons (ds_asg (de_kn (G__law_false_rounds.mono (by decide)) hr (da_cons (de_var 1) (da_cons (de_var 3) (da_cons (de_var 4) (da_cons (de_var 9) (da_cons (de_var 11) (da_cons (de_var 7) (da_cons (de_var 5) da_nil)))))))) (dg_tup rfl (dgs_cons (dg_name 12 sc_law.nd rfl (by first | exact Or.inl rfl | exact Or.inr rfl)) (dgs_cons (dg_name 13 sc_law.nd rfl (by first | exact Or.inl rfl | exact Or.inr rfl)) dgs_nil))))
 (dss_cons (ds_for PassesOwn.never rfl (di_range1 rfl T.b_range (da_cons de_int da_nil)) (dg_name 14 sc_law.nd rfl (by first | exact Or.inl rfl | exact Or.inr rfl))
 (dss_cons (ds_if (dt_cmp (op_eqD hr.units) ad_eqU (de_var 14) de_int (nomark _))
 (dss_cons (ds_par 8 15 rfl sc_law.nd rfl rfl (by decide) rfl rfl (da_cons (de_kn (G__law_take.mono (by decide)) hr (da_cons (de_var 1) (da_cons (de_var 5) da_nil))) (da_cons (de_kn (G__law_take.mono (by decide)) hr (da_cons (de_var 1) (da_cons (de_op op_addU ad_add (de_var 7) de_int) da_nil))) da_nil)) (by rfl))
 (dss_cons (ds_set 16 sc_law.nd rfl (by first | exact Or.inl rfl | exact Or.inr rfl) (de_op op_addU ad_add (de_op op_addU ad_add (de_slice (de_ix (de_var 12) (de_var 8)) do_none (do_some (de_var 15))) (de_tup (da_cons (de_kn (G__law_take.mono (by decide)) hr (da_cons (de_var 1) (da_cons (de_var 3) da_nil))) da_nil))) (de_slice (de_ix (de_var 12) (de_var 8)) (do_some (de_op op_addU ad_add (de_var 15) de_int)) do_none)))
 (dss_one (ds_set 12 sc_law.nd rfl (by first | exact Or.inl rfl | exact Or.inr rfl) (de_op op_addU ad_add (de_op op_addU ad_add (de_slice (de_var 12) do_none (do_some (de_var 8))) (de_tup (da_cons (de_var 16) da_nil))) (de_slice (de_var 12) (do_some (de_op op_addU ad_add (de_var 8) de_int)) do_none))))))
 dss_nil)
 (dss_cons (ds_set 17 sc_law.nd rfl (by first | exact Or.inl rfl | exact Or.inr rfl) (de_kn (G__law_values.mono (by decide)) hr (da_cons (de_var 3) (da_cons (de_var 11) (da_cons (de_var 12) (da_cons (de_var 13) da_nil))))))
 (dss_cons (ds_par 18 19 rfl sc_law.nd rfl rfl (by decide) rfl rfl (da_cons (de_kn (G__law_first_fault.mono (by decide)) hr (da_cons (de_var 3) (da_cons (de_var 17) (da_cons (de_var 12) da_nil)))) (da_cons (de_kn (G__law_first_missed.mono (by decide)) hr (da_cons (de_var 3) (da_cons (de_var 4) (da_cons (de_var 9) (da_cons (de_var 17) (da_cons (de_var 13) da_nil)))))) da_nil)) (by rfl))
 (dss_cons (ds_lc 20 rfl sc_law.nd rfl rfl (sw_true rfl rfl rfl (by decide +kernel)) (di_range1 rfl T.b_range (da_cons (de_var 5) da_nil)) (blkOk_by (own := [("at", 8)]) (N := N_law) (sc := defScope s_law) (by decide +kernel)) (by decide) (fun _ _ _ _ _ => (dg_name 8 sc_law.nd rfl (by first | exact Or.inl rfl | exact Or.inr rfl))) (fun _ _ _ _ _ => dts_nil) (fun _ _ _ _ _ => (de_kn (G_does_open.mono (by decide)) hr (da_cons (de_var 3) (da_cons (de_ix (de_var 17) (de_var 8)) (da_cons (de_ix (de_var 12) (de_var 8)) da_nil))))))
 (dss_cons (ds_lc 21 rfl sc_law.nd rfl rfl (sw_true rfl rfl rfl (by decide +kernel)) (di_range1 rfl T.b_range (da_cons (de_var 5) da_nil)) (blkOk_by (own := [("at", 8)]) (N := N_law) (sc := defScope s_law) (by decide +kernel)) (by decide) (fun _ _ _ _ _ => (dg_name 8 sc_law.nd rfl (by first | exact Or.inl rfl | exact Or.inr rfl))) (fun _ _ _ _ _ => dts_nil) (fun _ _ _ _ _ => (de_cmp (op_eqD hr.units) ad_eqU (de_op op_modN ad_mod (de_callTy call_int1 ad_int rfl T.b_int bt_int (da_cons (de_op op_sub ad_sub (de_op op_addU ad_add (de_ix (de_ix (de_var 12) (de_var 8)) de_int) (de_ix (de_ix (de_var 12) (de_var 8)) de_int)) (de_ix (de_var 17) (de_var 8))) da_nil)) (de_var 3)) de_int (nomark _))))
 (dss_cons (ds_set 20 sc_law.nd rfl (by first | exact Or.inl rfl | exact Or.inr rfl) (de_op op_addU ad_add (de_var 20) (de_lcE (dl_lc rfl sc_law.nd (di_range1 rfl T.b_range (da_cons (de_var 5) da_nil)) (blkOk_by (own := [("at", 8)]) (N := N_law) (sc := defScope s_law) (by decide +kernel)) (by decide) (fun _ _ _ _ _ => (dg_name 8 sc_law.nd rfl (by first | exact Or.inl rfl | exact Or.inr rfl))) (fun _ _ _ _ _ => dts_nil) (fun _ _ _ _ _ => (de_kn (G_next_value.mono (by decide)) hr (da_cons (de_var 3) (da_cons (de_ix (de_var 12) (de_var 8)) (da_cons (de_ix (de_var 13) (de_var 8)) da_nil)))))))))
 (dss_cons (ds_set 20 sc_law.nd rfl (by first | exact Or.inl rfl | exact Or.inr rfl) (de_op op_addU ad_add (de_var 20) (de_lst (da_cons (de_kn (G_round_fault.mono (by decide)) hr (da_cons (de_var 3) (da_cons (de_var 11) (da_cons (de_var 12) (da_cons (de_var 13) da_nil))))) (da_cons (de_kn (G_last_value.mono (by decide)) hr (da_cons (de_var 3) (da_cons (de_var 11) (da_cons (de_var 12) (da_cons (de_var 13) da_nil))))) da_nil)))))
 (dss_cons (ds_if (dt_not (dt_val (de_kn (G__law_alike.mono (by decide)) hr (da_cons (de_var 20) (da_cons (de_op op_addU ad_add (de_op op_addU ad_add (de_var 21) (de_slice (de_var 17) (do_some de_int) do_none)) (de_lst (da_cons (de_var 18) (da_cons (de_ix (de_var 17) (de_un un_neg ad_neg de_int)) da_nil)))) da_nil)))))
 (dss_one (ds_ret de_bl))
 dss_nil)
 (dss_cons (ds_if (dt_not (dt_val (de_kn (G__law_alike.mono (by decide)) hr (da_cons (de_kn (G_missed.mono (by decide)) hr (da_cons (de_var 3) (da_cons (de_var 4) (da_cons (de_var 9) (da_cons (de_var 11) (da_cons (de_var 12) (da_cons (de_var 13) da_nil))))))) (da_cons (de_var 19) da_nil)))))
 (dss_one (ds_ret de_bl))
 dss_nil)
 (dss_cons (ds_set 22 sc_law.nd rfl (by first | exact Or.inl rfl | exact Or.inr rfl) (de_kn (G__law_rest.mono (by decide)) hr (da_cons (de_var 3) (da_cons (de_var 4) (da_cons (de_var 9) (da_cons (de_var 13) da_nil))))))
 (dss_cons (ds_if (dt_w (dw_and (dt_cmp (op_neD hr.units) ad_neU (de_var 11) (de_var 10) (nomark _)) (dw_and (dt_cmp op_isN ad_isN (de_var 18) de_non (nomark _)) (dw_and (dt_cmp (op_eqD hr.units) ad_eqU (de_ix (de_var 17) (de_un un_neg ad_neg de_int)) (de_var 22) (nomark _)) (dw_and1 (dt_cmp op_isN ad_isN (de_var 19) de_non (nomark _)))))))
 (dss_one (ds_ret de_bl))
 dss_nil)
 (dss_one (ds_if (dt_not (dt_val (de_kn (G__law_alike.mono (by decide)) hr (da_cons (de_kn (G_number_of.mono (by decide)) hr (da_cons (de_var 3) (da_cons (de_var 4) (da_cons (de_kn (G_last_numbers.mono (by decide)) hr (da_cons (de_var 3) (da_cons (de_var 4) (da_cons (de_var 9) (da_cons (de_var 13) da_nil))))) da_nil)))) (da_cons (de_var 22) da_nil)))))
 (dss_one (ds_ret de_bl))
 dss_nil))))))))))))))
 (dss_cons (ds_set 23 sc_law.nd rfl (by first | exact Or.inl rfl | exact Or.inr rfl) (de_kn (G_rounds_of.mono (by decide)) hr (da_cons (de_var 3) (da_cons (de_var 4) (da_cons (de_var 9) (da_cons (de_var 13) da_nil))))))
 (dss_cons (ds_set 20 sc_law.nd rfl (by first | exact Or.inl rfl | exact Or.inr rfl) (de_lst (da_cons (de_kn (G_whole_sum.mono (by decide)) hr (da_cons (de_var 3) (da_cons (de_var 4) (da_cons (de_var 9) da_nil)))) (da_cons (de_kn (G_round_fault.mono (by decide)) hr (da_cons (de_var 3) (da_cons (de_var 10) (da_cons (de_var 23) (da_cons (de_var 13) da_nil))))) (da_cons (de_kn (G_last_value.mono (by decide)) hr (da_cons (de_var 3) (da_cons (de_var 10) (da_cons (de_var 23) (da_cons (de_var 13) da_nil))))) da_nil)))))
 (dss_cons (ds_if (dt_not (dt_val (de_kn (G__law_alike.mono (by decide)) hr (da_cons (de_op op_addU ad_add (de_var 20) (de_lst (da_cons (de_kn (G_missed.mono (by decide)) hr (da_cons (de_var 3) (da_cons (de_var 4) (da_cons (de_var 9) (da_cons (de_var 10) (da_cons (de_var 23) (da_cons (de_var 13) da_nil))))))) da_nil))) (da_cons (de_lst (da_cons (de_var 10) (da_cons de_non (da_cons (de_var 22) (da_cons de_non da_nil))))) da_nil)))))
 (dss_one (ds_ret de_bl))
 dss_nil)
 (dss_one (ds_if (dt_not (dt_val (de_kn (G__law_alike.mono (by decide)) hr (da_cons (de_lst (da_cons (de_kn (G_last_value.mono (by decide)) hr (da_cons (de_var 3) (da_cons (de_var 11) (da_cons (de_tup da_nil) (da_cons (de_tup da_nil) da_nil))))) (da_cons (de_kn (G_round_fault.mono (by decide)) hr (da_cons (de_var 3) (da_cons (de_var 11) (da_cons (de_tup da_nil) (da_cons (de_tup da_nil) da_nil))))) da_nil))) (da_cons (de_lst (da_cons (de_var 11) (da_cons de_non da_nil))) da_nil)))))
 (dss_one (ds_ret de_bl))
 dss_nil)))))))))))))
 (dss_one (ds_ret de_bl))))) p_law
end

omit [ClsA] in
theorem all_mk {l : PySem.W.OpenLaw} {w : World} {K : PySem.W.Frag} {h : Heap} {mg : Str → Option Value} {fa : Addr} (X : K.In h) (G : h.Ns mainGlobals mg) (hfa : mg "law" = some (.ref fa))
    {A_Summer : Addr} (A1_Summer : PySem.W.nsIn K mainGlobals "Summer" = some (some (.ref A_Summer))) (A2_Summer : PySem.W.plainGet K A_Summer Str.empty = true) (A3_Summer : PySem.W.hasDictIn K A_Summer = true) (A4_Summer : PySem.W.plainOver K A_Summer = true) (A5_Summer : PySem.W.findIn K (.ref A_Summer) "__setattr__" = some (some (.builtin "object.__setattr__"))) (A6_Summer : PySem.W.makesIn K A_Summer = true) (A7_Summer : PySem.W.keepIn K (.ref A_Summer) = true)
    (An_Summer_its_p : PySem.W.findIn K (.ref A_Summer) "its_p" = some none)
    (An_Summer_its_point : PySem.W.findIn K (.ref A_Summer) "its_point" = some none)
    (An_Summer_its_tables : PySem.W.findIn K (.ref A_Summer) "its_tables" = some none)
    (An_Summer_its_word : PySem.W.findIn K (.ref A_Summer) "its_word" = some none)
    {f_times : Addr} {od_times an_times : Option Addr} {sl_times : Array (Option Value)} {oc_times kV_times dc_times pm_times cd_times ct_times : Value}
    (a_times : PySem.W.nsIn K mainGlobals "times" = some (some (.ref f_times))) (l_times : K.lookup f_times = some ⟨oc_times, od_times, .func (PySem.W.fnOf "times" "times" (defArgs s_times) (defBody s_times) (defScope s_times) .none kV_times dc_times pm_times an_times cd_times ct_times), sl_times⟩) (c_times : PySem.W.codeIn K cd_times "times" = true) (k_times : PySem.W.keepIn K (.ref f_times) = true)
    {f_summed : Addr} {od_summed an_summed : Option Addr} {sl_summed : Array (Option Value)} {oc_summed kV_summed dc_summed pm_summed cd_summed ct_summed : Value}
    (a_summed : PySem.W.nsIn K mainGlobals "summed" = some (some (.ref f_summed))) (l_summed : K.lookup f_summed = some ⟨oc_summed, od_summed, .func (PySem.W.fnOf "summed" "summed" (defArgs s_summed) (defBody s_summed) (defScope s_summed) .none kV_summed dc_summed pm_summed an_summed cd_summed ct_summed), sl_summed⟩) (c_summed : PySem.W.codeIn K cd_summed "summed" = true) (k_summed : PySem.W.keepIn K (.ref f_summed) = true)
    {f_product_of : Addr} {od_product_of an_product_of : Option Addr} {sl_product_of : Array (Option Value)} {oc_product_of kV_product_of dc_product_of pm_product_of cd_product_of ct_product_of : Value}
    (a_product_of : PySem.W.nsIn K mainGlobals "product_of" = some (some (.ref f_product_of))) (l_product_of : K.lookup f_product_of = some ⟨oc_product_of, od_product_of, .func (PySem.W.fnOf "product_of" "product_of" (defArgs s_product_of) (defBody s_product_of) (defScope s_product_of) .none kV_product_of dc_product_of pm_product_of an_product_of cd_product_of ct_product_of), sl_product_of⟩) (c_product_of : PySem.W.codeIn K cd_product_of "product_of" = true) (k_product_of : PySem.W.keepIn K (.ref f_product_of) = true)
    {f_power : Addr} {od_power an_power : Option Addr} {sl_power : Array (Option Value)} {oc_power kV_power dc_power pm_power cd_power ct_power : Value}
    (a_power : PySem.W.nsIn K mainGlobals "power" = some (some (.ref f_power))) (l_power : K.lookup f_power = some ⟨oc_power, od_power, .func (PySem.W.fnOf "power" "power" (defArgs s_power) (defBody s_power) (defScope s_power) .none kV_power dc_power pm_power an_power cd_power ct_power), sl_power⟩) (c_power : PySem.W.codeIn K cd_power "power" = true) (k_power : PySem.W.keepIn K (.ref f_power) = true)
    {f_inverse : Addr} {od_inverse an_inverse : Option Addr} {sl_inverse : Array (Option Value)} {oc_inverse kV_inverse dc_inverse pm_inverse cd_inverse ct_inverse : Value}
    (a_inverse : PySem.W.nsIn K mainGlobals "inverse" = some (some (.ref f_inverse))) (l_inverse : K.lookup f_inverse = some ⟨oc_inverse, od_inverse, .func (PySem.W.fnOf "inverse" "inverse" (defArgs s_inverse) (defBody s_inverse) (defScope s_inverse) .none kV_inverse dc_inverse pm_inverse an_inverse cd_inverse ct_inverse), sl_inverse⟩) (c_inverse : PySem.W.codeIn K cd_inverse "inverse" = true) (k_inverse : PySem.W.keepIn K (.ref f_inverse) = true)
    {f_basis_at : Addr} {od_basis_at an_basis_at : Option Addr} {sl_basis_at : Array (Option Value)} {oc_basis_at kV_basis_at dc_basis_at pm_basis_at cd_basis_at ct_basis_at : Value}
    (a_basis_at : PySem.W.nsIn K mainGlobals "basis_at" = some (some (.ref f_basis_at))) (l_basis_at : K.lookup f_basis_at = some ⟨oc_basis_at, od_basis_at, .func (PySem.W.fnOf "basis_at" "basis_at" (defArgs s_basis_at) (defBody s_basis_at) (defScope s_basis_at) .none kV_basis_at dc_basis_at pm_basis_at an_basis_at cd_basis_at ct_basis_at), sl_basis_at⟩) (c_basis_at : PySem.W.codeIn K cd_basis_at "basis_at" = true) (k_basis_at : PySem.W.keepIn K (.ref f_basis_at) = true)
    {f_value_at : Addr} {od_value_at an_value_at : Option Addr} {sl_value_at : Array (Option Value)} {oc_value_at kV_value_at dc_value_at pm_value_at cd_value_at ct_value_at : Value}
    (a_value_at : PySem.W.nsIn K mainGlobals "value_at" = some (some (.ref f_value_at))) (l_value_at : K.lookup f_value_at = some ⟨oc_value_at, od_value_at, .func (PySem.W.fnOf "value_at" "value_at" (defArgs s_value_at) (defBody s_value_at) (defScope s_value_at) .none kV_value_at dc_value_at pm_value_at an_value_at cd_value_at ct_value_at), sl_value_at⟩) (c_value_at : PySem.W.codeIn K cd_value_at "value_at" = true) (k_value_at : PySem.W.keepIn K (.ref f_value_at) = true)
    {f_bits_of : Addr} {od_bits_of an_bits_of : Option Addr} {sl_bits_of : Array (Option Value)} {oc_bits_of kV_bits_of dc_bits_of pm_bits_of cd_bits_of ct_bits_of : Value}
    (a_bits_of : PySem.W.nsIn K mainGlobals "bits_of" = some (some (.ref f_bits_of))) (l_bits_of : K.lookup f_bits_of = some ⟨oc_bits_of, od_bits_of, .func (PySem.W.fnOf "bits_of" "bits_of" (defArgs s_bits_of) (defBody s_bits_of) (defScope s_bits_of) .none kV_bits_of dc_bits_of pm_bits_of an_bits_of cd_bits_of ct_bits_of), sl_bits_of⟩) (c_bits_of : PySem.W.codeIn K cd_bits_of "bits_of" = true) (k_bits_of : PySem.W.keepIn K (.ref f_bits_of) = true)
    {f_weights : Addr} {od_weights an_weights : Option Addr} {sl_weights : Array (Option Value)} {oc_weights kV_weights dc_weights pm_weights cd_weights ct_weights : Value}
    (a_weights : PySem.W.nsIn K mainGlobals "weights" = some (some (.ref f_weights))) (l_weights : K.lookup f_weights = some ⟨oc_weights, od_weights, .func (PySem.W.fnOf "weights" "weights" (defArgs s_weights) (defBody s_weights) (defScope s_weights) .none kV_weights dc_weights pm_weights an_weights cd_weights ct_weights), sl_weights⟩) (c_weights : PySem.W.codeIn K cd_weights "weights" = true) (k_weights : PySem.W.keepIn K (.ref f_weights) = true)
    {f_extension : Addr} {od_extension an_extension : Option Addr} {sl_extension : Array (Option Value)} {oc_extension kV_extension dc_extension pm_extension cd_extension ct_extension : Value}
    (a_extension : PySem.W.nsIn K mainGlobals "extension" = some (some (.ref f_extension))) (l_extension : K.lookup f_extension = some ⟨oc_extension, od_extension, .func (PySem.W.fnOf "extension" "extension" (defArgs s_extension) (defBody s_extension) (defScope s_extension) .none kV_extension dc_extension pm_extension an_extension cd_extension ct_extension), sl_extension⟩) (c_extension : PySem.W.codeIn K cd_extension "extension" = true) (k_extension : PySem.W.keepIn K (.ref f_extension) = true)
    {f_fixed : Addr} {od_fixed an_fixed : Option Addr} {sl_fixed : Array (Option Value)} {oc_fixed kV_fixed dc_fixed pm_fixed cd_fixed ct_fixed : Value}
    (a_fixed : PySem.W.nsIn K mainGlobals "fixed" = some (some (.ref f_fixed))) (l_fixed : K.lookup f_fixed = some ⟨oc_fixed, od_fixed, .func (PySem.W.fnOf "fixed" "fixed" (defArgs s_fixed) (defBody s_fixed) (defScope s_fixed) .none kV_fixed dc_fixed pm_fixed an_fixed cd_fixed ct_fixed), sl_fixed⟩) (c_fixed : PySem.W.codeIn K cd_fixed "fixed" = true) (k_fixed : PySem.W.keepIn K (.ref f_fixed) = true)
    {f_degree_of : Addr} {od_degree_of an_degree_of : Option Addr} {sl_degree_of : Array (Option Value)} {oc_degree_of kV_degree_of dc_degree_of pm_degree_of cd_degree_of ct_degree_of : Value}
    (a_degree_of : PySem.W.nsIn K mainGlobals "degree_of" = some (some (.ref f_degree_of))) (l_degree_of : K.lookup f_degree_of = some ⟨oc_degree_of, od_degree_of, .func (PySem.W.fnOf "degree_of" "degree_of" (defArgs s_degree_of) (defBody s_degree_of) (defScope s_degree_of) .none kV_degree_of dc_degree_of pm_degree_of an_degree_of cd_degree_of ct_degree_of), sl_degree_of⟩) (c_degree_of : PySem.W.codeIn K cd_degree_of "degree_of" = true) (k_degree_of : PySem.W.keepIn K (.ref f_degree_of) = true)
    {f_number_of : Addr} {od_number_of an_number_of : Option Addr} {sl_number_of : Array (Option Value)} {oc_number_of kV_number_of dc_number_of pm_number_of cd_number_of ct_number_of : Value}
    (a_number_of : PySem.W.nsIn K mainGlobals "number_of" = some (some (.ref f_number_of))) (l_number_of : K.lookup f_number_of = some ⟨oc_number_of, od_number_of, .func (PySem.W.fnOf "number_of" "number_of" (defArgs s_number_of) (defBody s_number_of) (defScope s_number_of) .none kV_number_of dc_number_of pm_number_of an_number_of cd_number_of ct_number_of), sl_number_of⟩) (c_number_of : PySem.W.codeIn K cd_number_of "number_of" = true) (k_number_of : PySem.W.keepIn K (.ref f_number_of) = true)
    {f_whole_sum : Addr} {od_whole_sum an_whole_sum : Option Addr} {sl_whole_sum : Array (Option Value)} {oc_whole_sum kV_whole_sum dc_whole_sum pm_whole_sum cd_whole_sum ct_whole_sum : Value}
    (a_whole_sum : PySem.W.nsIn K mainGlobals "whole_sum" = some (some (.ref f_whole_sum))) (l_whole_sum : K.lookup f_whole_sum = some ⟨oc_whole_sum, od_whole_sum, .func (PySem.W.fnOf "whole_sum" "whole_sum" (defArgs s_whole_sum) (defBody s_whole_sum) (defScope s_whole_sum) .none kV_whole_sum dc_whole_sum pm_whole_sum an_whole_sum cd_whole_sum ct_whole_sum), sl_whole_sum⟩) (c_whole_sum : PySem.W.codeIn K cd_whole_sum "whole_sum" = true) (k_whole_sum : PySem.W.keepIn K (.ref f_whole_sum) = true)
    {f_all_points : Addr} {od_all_points an_all_points : Option Addr} {sl_all_points : Array (Option Value)} {oc_all_points kV_all_points dc_all_points pm_all_points cd_all_points ct_all_points : Value}
    (a_all_points : PySem.W.nsIn K mainGlobals "all_points" = some (some (.ref f_all_points))) (l_all_points : K.lookup f_all_points = some ⟨oc_all_points, od_all_points, .func (PySem.W.fnOf "all_points" "all_points" (defArgs s_all_points) (defBody s_all_points) (defScope s_all_points) .none kV_all_points dc_all_points pm_all_points an_all_points cd_all_points ct_all_points), sl_all_points⟩) (c_all_points : PySem.W.codeIn K cd_all_points "all_points" = true) (k_all_points : PySem.W.keepIn K (.ref f_all_points) = true)
    {f_number_at : Addr} {od_number_at an_number_at : Option Addr} {sl_number_at : Array (Option Value)} {oc_number_at kV_number_at dc_number_at pm_number_at cd_number_at ct_number_at : Value}
    (a_number_at : PySem.W.nsIn K mainGlobals "number_at" = some (some (.ref f_number_at))) (l_number_at : K.lookup f_number_at = some ⟨oc_number_at, od_number_at, .func (PySem.W.fnOf "number_at" "number_at" (defArgs s_number_at) (defBody s_number_at) (defScope s_number_at) .none kV_number_at dc_number_at pm_number_at an_number_at cd_number_at ct_number_at), sl_number_at⟩) (c_number_at : PySem.W.codeIn K cd_number_at "number_at" = true) (k_number_at : PySem.W.keepIn K (.ref f_number_at) = true)
    {f_rest_sum : Addr} {od_rest_sum an_rest_sum : Option Addr} {sl_rest_sum : Array (Option Value)} {oc_rest_sum kV_rest_sum dc_rest_sum pm_rest_sum cd_rest_sum ct_rest_sum : Value}
    (a_rest_sum : PySem.W.nsIn K mainGlobals "rest_sum" = some (some (.ref f_rest_sum))) (l_rest_sum : K.lookup f_rest_sum = some ⟨oc_rest_sum, od_rest_sum, .func (PySem.W.fnOf "rest_sum" "rest_sum" (defArgs s_rest_sum) (defBody s_rest_sum) (defScope s_rest_sum) .none kV_rest_sum dc_rest_sum pm_rest_sum an_rest_sum cd_rest_sum ct_rest_sum), sl_rest_sum⟩) (c_rest_sum : PySem.W.codeIn K cd_rest_sum "rest_sum" = true) (k_rest_sum : PySem.W.keepIn K (.ref f_rest_sum) = true)
    {f_fixed_all : Addr} {od_fixed_all an_fixed_all : Option Addr} {sl_fixed_all : Array (Option Value)} {oc_fixed_all kV_fixed_all dc_fixed_all pm_fixed_all cd_fixed_all ct_fixed_all : Value}
    (a_fixed_all : PySem.W.nsIn K mainGlobals "fixed_all" = some (some (.ref f_fixed_all))) (l_fixed_all : K.lookup f_fixed_all = some ⟨oc_fixed_all, od_fixed_all, .func (PySem.W.fnOf "fixed_all" "fixed_all" (defArgs s_fixed_all) (defBody s_fixed_all) (defScope s_fixed_all) .none kV_fixed_all dc_fixed_all pm_fixed_all an_fixed_all cd_fixed_all ct_fixed_all), sl_fixed_all⟩) (c_fixed_all : PySem.W.codeIn K cd_fixed_all "fixed_all" = true) (k_fixed_all : PySem.W.keepIn K (.ref f_fixed_all) = true)
    {f_round_of : Addr} {od_round_of an_round_of : Option Addr} {sl_round_of : Array (Option Value)} {oc_round_of kV_round_of dc_round_of pm_round_of cd_round_of ct_round_of : Value}
    (a_round_of : PySem.W.nsIn K mainGlobals "round_of" = some (some (.ref f_round_of))) (l_round_of : K.lookup f_round_of = some ⟨oc_round_of, od_round_of, .func (PySem.W.fnOf "round_of" "round_of" (defArgs s_round_of) (defBody s_round_of) (defScope s_round_of) .none kV_round_of dc_round_of pm_round_of an_round_of cd_round_of ct_round_of), sl_round_of⟩) (c_round_of : PySem.W.codeIn K cd_round_of "round_of" = true) (k_round_of : PySem.W.keepIn K (.ref f_round_of) = true)
    {f_Summer___init__ : Addr} {od_Summer___init__ an_Summer___init__ : Option Addr} {sl_Summer___init__ : Array (Option Value)} {oc_Summer___init__ kV_Summer___init__ dc_Summer___init__ pm_Summer___init__ cd_Summer___init__ ct_Summer___init__ : Value}
    (a_Summer___init__ : PySem.W.findIn K (.ref A_Summer) "__init__" = some (some (.ref f_Summer___init__))) (l_Summer___init__ : K.lookup f_Summer___init__ = some ⟨oc_Summer___init__, od_Summer___init__, .func (PySem.W.fnOf "__init__" "Summer.__init__" (defArgs s_Summer___init__) (defBody s_Summer___init__) (defScope s_Summer___init__) .none kV_Summer___init__ dc_Summer___init__ pm_Summer___init__ an_Summer___init__ cd_Summer___init__ ct_Summer___init__), sl_Summer___init__⟩) (c_Summer___init__ : PySem.W.codeIn K cd_Summer___init__ "Summer.__init__" = true) (k_Summer___init__ : PySem.W.keepIn K (.ref f_Summer___init__) = true) (i_Summer___init__ : PySem.W.isFn K (.ref f_Summer___init__) = true)
    {f_Summer_told : Addr} {od_Summer_told an_Summer_told : Option Addr} {sl_Summer_told : Array (Option Value)} {oc_Summer_told kV_Summer_told dc_Summer_told pm_Summer_told cd_Summer_told ct_Summer_told : Value}
    (a_Summer_told : PySem.W.findIn K (.ref A_Summer) "told" = some (some (.ref f_Summer_told))) (l_Summer_told : K.lookup f_Summer_told = some ⟨oc_Summer_told, od_Summer_told, .func (PySem.W.fnOf "told" "Summer.told" (defArgs s_Summer_told) (defBody s_Summer_told) (defScope s_Summer_told) .none kV_Summer_told dc_Summer_told pm_Summer_told an_Summer_told cd_Summer_told ct_Summer_told), sl_Summer_told⟩) (c_Summer_told : PySem.W.codeIn K cd_Summer_told "Summer.told" = true) (k_Summer_told : PySem.W.keepIn K (.ref f_Summer_told) = true) (i_Summer_told : PySem.W.isFn K (.ref f_Summer_told) = true)
    {f_Summer_draw : Addr} {od_Summer_draw an_Summer_draw : Option Addr} {sl_Summer_draw : Array (Option Value)} {oc_Summer_draw kV_Summer_draw dc_Summer_draw pm_Summer_draw cd_Summer_draw ct_Summer_draw : Value}
    (a_Summer_draw : PySem.W.findIn K (.ref A_Summer) "draw" = some (some (.ref f_Summer_draw))) (l_Summer_draw : K.lookup f_Summer_draw = some ⟨oc_Summer_draw, od_Summer_draw, .func (PySem.W.fnOf "draw" "Summer.draw" (defArgs s_Summer_draw) (defBody s_Summer_draw) (defScope s_Summer_draw) .none kV_Summer_draw dc_Summer_draw pm_Summer_draw an_Summer_draw cd_Summer_draw ct_Summer_draw), sl_Summer_draw⟩) (c_Summer_draw : PySem.W.codeIn K cd_Summer_draw "Summer.draw" = true) (k_Summer_draw : PySem.W.keepIn K (.ref f_Summer_draw) = true) (i_Summer_draw : PySem.W.isFn K (.ref f_Summer_draw) = true)
    {f_rounds_of : Addr} {od_rounds_of an_rounds_of : Option Addr} {sl_rounds_of : Array (Option Value)} {oc_rounds_of kV_rounds_of dc_rounds_of pm_rounds_of cd_rounds_of ct_rounds_of : Value}
    (a_rounds_of : PySem.W.nsIn K mainGlobals "rounds_of" = some (some (.ref f_rounds_of))) (l_rounds_of : K.lookup f_rounds_of = some ⟨oc_rounds_of, od_rounds_of, .func (PySem.W.fnOf "rounds_of" "rounds_of" (defArgs s_rounds_of) (defBody s_rounds_of) (defScope s_rounds_of) .none kV_rounds_of dc_rounds_of pm_rounds_of an_rounds_of cd_rounds_of ct_rounds_of), sl_rounds_of⟩) (c_rounds_of : PySem.W.codeIn K cd_rounds_of "rounds_of" = true) (k_rounds_of : PySem.W.keepIn K (.ref f_rounds_of) = true)
    {f_last_numbers : Addr} {od_last_numbers an_last_numbers : Option Addr} {sl_last_numbers : Array (Option Value)} {oc_last_numbers kV_last_numbers dc_last_numbers pm_last_numbers cd_last_numbers ct_last_numbers : Value}
    (a_last_numbers : PySem.W.nsIn K mainGlobals "last_numbers" = some (some (.ref f_last_numbers))) (l_last_numbers : K.lookup f_last_numbers = some ⟨oc_last_numbers, od_last_numbers, .func (PySem.W.fnOf "last_numbers" "last_numbers" (defArgs s_last_numbers) (defBody s_last_numbers) (defScope s_last_numbers) .none kV_last_numbers dc_last_numbers pm_last_numbers an_last_numbers cd_last_numbers ct_last_numbers), sl_last_numbers⟩) (c_last_numbers : PySem.W.codeIn K cd_last_numbers "last_numbers" = true) (k_last_numbers : PySem.W.keepIn K (.ref f_last_numbers) = true)
    {f_does_open : Addr} {od_does_open an_does_open : Option Addr} {sl_does_open : Array (Option Value)} {oc_does_open kV_does_open dc_does_open pm_does_open cd_does_open ct_does_open : Value}
    (a_does_open : PySem.W.nsIn K mainGlobals "does_open" = some (some (.ref f_does_open))) (l_does_open : K.lookup f_does_open = some ⟨oc_does_open, od_does_open, .func (PySem.W.fnOf "does_open" "does_open" (defArgs s_does_open) (defBody s_does_open) (defScope s_does_open) .none kV_does_open dc_does_open pm_does_open an_does_open cd_does_open ct_does_open), sl_does_open⟩) (c_does_open : PySem.W.codeIn K cd_does_open "does_open" = true) (k_does_open : PySem.W.keepIn K (.ref f_does_open) = true)
    {f_next_value : Addr} {od_next_value an_next_value : Option Addr} {sl_next_value : Array (Option Value)} {oc_next_value kV_next_value dc_next_value pm_next_value cd_next_value ct_next_value : Value}
    (a_next_value : PySem.W.nsIn K mainGlobals "next_value" = some (some (.ref f_next_value))) (l_next_value : K.lookup f_next_value = some ⟨oc_next_value, od_next_value, .func (PySem.W.fnOf "next_value" "next_value" (defArgs s_next_value) (defBody s_next_value) (defScope s_next_value) .none kV_next_value dc_next_value pm_next_value an_next_value cd_next_value ct_next_value), sl_next_value⟩) (c_next_value : PySem.W.codeIn K cd_next_value "next_value" = true) (k_next_value : PySem.W.keepIn K (.ref f_next_value) = true)
    {f_values_ahead : Addr} {od_values_ahead an_values_ahead : Option Addr} {sl_values_ahead : Array (Option Value)} {oc_values_ahead kV_values_ahead dc_values_ahead pm_values_ahead cd_values_ahead ct_values_ahead : Value}
    (a_values_ahead : PySem.W.nsIn K mainGlobals "values_ahead" = some (some (.ref f_values_ahead))) (l_values_ahead : K.lookup f_values_ahead = some ⟨oc_values_ahead, od_values_ahead, .func (PySem.W.fnOf "values_ahead" "values_ahead" (defArgs s_values_ahead) (defBody s_values_ahead) (defScope s_values_ahead) .none kV_values_ahead dc_values_ahead pm_values_ahead an_values_ahead cd_values_ahead ct_values_ahead), sl_values_ahead⟩) (c_values_ahead : PySem.W.codeIn K cd_values_ahead "values_ahead" = true) (k_values_ahead : PySem.W.keepIn K (.ref f_values_ahead) = true)
    {f_round_fault : Addr} {od_round_fault an_round_fault : Option Addr} {sl_round_fault : Array (Option Value)} {oc_round_fault kV_round_fault dc_round_fault pm_round_fault cd_round_fault ct_round_fault : Value}
    (a_round_fault : PySem.W.nsIn K mainGlobals "round_fault" = some (some (.ref f_round_fault))) (l_round_fault : K.lookup f_round_fault = some ⟨oc_round_fault, od_round_fault, .func (PySem.W.fnOf "round_fault" "round_fault" (defArgs s_round_fault) (defBody s_round_fault) (defScope s_round_fault) .none kV_round_fault dc_round_fault pm_round_fault an_round_fault cd_round_fault ct_round_fault), sl_round_fault⟩) (c_round_fault : PySem.W.codeIn K cd_round_fault "round_fault" = true) (k_round_fault : PySem.W.keepIn K (.ref f_round_fault) = true)
    {f_last_value : Addr} {od_last_value an_last_value : Option Addr} {sl_last_value : Array (Option Value)} {oc_last_value kV_last_value dc_last_value pm_last_value cd_last_value ct_last_value : Value}
    (a_last_value : PySem.W.nsIn K mainGlobals "last_value" = some (some (.ref f_last_value))) (l_last_value : K.lookup f_last_value = some ⟨oc_last_value, od_last_value, .func (PySem.W.fnOf "last_value" "last_value" (defArgs s_last_value) (defBody s_last_value) (defScope s_last_value) .none kV_last_value dc_last_value pm_last_value an_last_value cd_last_value ct_last_value), sl_last_value⟩) (c_last_value : PySem.W.codeIn K cd_last_value "last_value" = true) (k_last_value : PySem.W.keepIn K (.ref f_last_value) = true)
    {f_missed : Addr} {od_missed an_missed : Option Addr} {sl_missed : Array (Option Value)} {oc_missed kV_missed dc_missed pm_missed cd_missed ct_missed : Value}
    (a_missed : PySem.W.nsIn K mainGlobals "missed" = some (some (.ref f_missed))) (l_missed : K.lookup f_missed = some ⟨oc_missed, od_missed, .func (PySem.W.fnOf "missed" "missed" (defArgs s_missed) (defBody s_missed) (defScope s_missed) .none kV_missed dc_missed pm_missed an_missed cd_missed ct_missed), sl_missed⟩) (c_missed : PySem.W.codeIn K cd_missed "missed" = true) (k_missed : PySem.W.keepIn K (.ref f_missed) = true)
    {f__law_bag : Addr} {od__law_bag an__law_bag : Option Addr} {sl__law_bag : Array (Option Value)} {oc__law_bag kV__law_bag dc__law_bag pm__law_bag cd__law_bag ct__law_bag : Value}
    (a__law_bag : PySem.W.nsIn K mainGlobals "_law_bag" = some (some (.ref f__law_bag))) (l__law_bag : K.lookup f__law_bag = some ⟨oc__law_bag, od__law_bag, .func (PySem.W.fnOf "_law_bag" "_law_bag" (defArgs s__law_bag) (defBody s__law_bag) (defScope s__law_bag) .none kV__law_bag dc__law_bag pm__law_bag an__law_bag cd__law_bag ct__law_bag), sl__law_bag⟩) (c__law_bag : PySem.W.codeIn K cd__law_bag "_law_bag" = true) (k__law_bag : PySem.W.keepIn K (.ref f__law_bag) = true)
    {f__law_take : Addr} {od__law_take an__law_take : Option Addr} {sl__law_take : Array (Option Value)} {oc__law_take kV__law_take dc__law_take pm__law_take cd__law_take ct__law_take : Value}
    (a__law_take : PySem.W.nsIn K mainGlobals "_law_take" = some (some (.ref f__law_take))) (l__law_take : K.lookup f__law_take = some ⟨oc__law_take, od__law_take, .func (PySem.W.fnOf "_law_take" "_law_take" (defArgs s__law_take) (defBody s__law_take) (defScope s__law_take) .none kV__law_take dc__law_take pm__law_take an__law_take cd__law_take ct__law_take), sl__law_take⟩) (c__law_take : PySem.W.codeIn K cd__law_take "_law_take" = true) (k__law_take : PySem.W.keepIn K (.ref f__law_take) = true)
    {f__law_some : Addr} {od__law_some an__law_some : Option Addr} {sl__law_some : Array (Option Value)} {oc__law_some kV__law_some dc__law_some pm__law_some cd__law_some ct__law_some : Value}
    (a__law_some : PySem.W.nsIn K mainGlobals "_law_some" = some (some (.ref f__law_some))) (l__law_some : K.lookup f__law_some = some ⟨oc__law_some, od__law_some, .func (PySem.W.fnOf "_law_some" "_law_some" (defArgs s__law_some) (defBody s__law_some) (defScope s__law_some) .none kV__law_some dc__law_some pm__law_some an__law_some cd__law_some ct__law_some), sl__law_some⟩) (c__law_some : PySem.W.codeIn K cd__law_some "_law_some" = true) (k__law_some : PySem.W.keepIn K (.ref f__law_some) = true)
    {f__law_alike : Addr} {od__law_alike an__law_alike : Option Addr} {sl__law_alike : Array (Option Value)} {oc__law_alike kV__law_alike dc__law_alike pm__law_alike cd__law_alike ct__law_alike : Value}
    (a__law_alike : PySem.W.nsIn K mainGlobals "_law_alike" = some (some (.ref f__law_alike))) (l__law_alike : K.lookup f__law_alike = some ⟨oc__law_alike, od__law_alike, .func (PySem.W.fnOf "_law_alike" "_law_alike" (defArgs s__law_alike) (defBody s__law_alike) (defScope s__law_alike) .none kV__law_alike dc__law_alike pm__law_alike an__law_alike cd__law_alike ct__law_alike), sl__law_alike⟩) (c__law_alike : PySem.W.codeIn K cd__law_alike "_law_alike" = true) (k__law_alike : PySem.W.keepIn K (.ref f__law_alike) = true)
    {f__law_inverse : Addr} {od__law_inverse an__law_inverse : Option Addr} {sl__law_inverse : Array (Option Value)} {oc__law_inverse kV__law_inverse dc__law_inverse pm__law_inverse cd__law_inverse ct__law_inverse : Value}
    (a__law_inverse : PySem.W.nsIn K mainGlobals "_law_inverse" = some (some (.ref f__law_inverse))) (l__law_inverse : K.lookup f__law_inverse = some ⟨oc__law_inverse, od__law_inverse, .func (PySem.W.fnOf "_law_inverse" "_law_inverse" (defArgs s__law_inverse) (defBody s__law_inverse) (defScope s__law_inverse) .none kV__law_inverse dc__law_inverse pm__law_inverse an__law_inverse cd__law_inverse ct__law_inverse), sl__law_inverse⟩) (c__law_inverse : PySem.W.codeIn K cd__law_inverse "_law_inverse" = true) (k__law_inverse : PySem.W.keepIn K (.ref f__law_inverse) = true)
    {f__law_curve : Addr} {od__law_curve an__law_curve : Option Addr} {sl__law_curve : Array (Option Value)} {oc__law_curve kV__law_curve dc__law_curve pm__law_curve cd__law_curve ct__law_curve : Value}
    (a__law_curve : PySem.W.nsIn K mainGlobals "_law_curve" = some (some (.ref f__law_curve))) (l__law_curve : K.lookup f__law_curve = some ⟨oc__law_curve, od__law_curve, .func (PySem.W.fnOf "_law_curve" "_law_curve" (defArgs s__law_curve) (defBody s__law_curve) (defScope s__law_curve) .none kV__law_curve dc__law_curve pm__law_curve an__law_curve cd__law_curve ct__law_curve), sl__law_curve⟩) (c__law_curve : PySem.W.codeIn K cd__law_curve "_law_curve" = true) (k__law_curve : PySem.W.keepIn K (.ref f__law_curve) = true)
    {f__law_bits : Addr} {od__law_bits an__law_bits : Option Addr} {sl__law_bits : Array (Option Value)} {oc__law_bits kV__law_bits dc__law_bits pm__law_bits cd__law_bits ct__law_bits : Value}
    (a__law_bits : PySem.W.nsIn K mainGlobals "_law_bits" = some (some (.ref f__law_bits))) (l__law_bits : K.lookup f__law_bits = some ⟨oc__law_bits, od__law_bits, .func (PySem.W.fnOf "_law_bits" "_law_bits" (defArgs s__law_bits) (defBody s__law_bits) (defScope s__law_bits) .none kV__law_bits dc__law_bits pm__law_bits an__law_bits cd__law_bits ct__law_bits), sl__law_bits⟩) (c__law_bits : PySem.W.codeIn K cd__law_bits "_law_bits" = true) (k__law_bits : PySem.W.keepIn K (.ref f__law_bits) = true)
    {f__law_weight : Addr} {od__law_weight an__law_weight : Option Addr} {sl__law_weight : Array (Option Value)} {oc__law_weight kV__law_weight dc__law_weight pm__law_weight cd__law_weight ct__law_weight : Value}
    (a__law_weight : PySem.W.nsIn K mainGlobals "_law_weight" = some (some (.ref f__law_weight))) (l__law_weight : K.lookup f__law_weight = some ⟨oc__law_weight, od__law_weight, .func (PySem.W.fnOf "_law_weight" "_law_weight" (defArgs s__law_weight) (defBody s__law_weight) (defScope s__law_weight) .none kV__law_weight dc__law_weight pm__law_weight an__law_weight cd__law_weight ct__law_weight), sl__law_weight⟩) (c__law_weight : PySem.W.codeIn K cd__law_weight "_law_weight" = true) (k__law_weight : PySem.W.keepIn K (.ref f__law_weight) = true)
    {f__law_extension : Addr} {od__law_extension an__law_extension : Option Addr} {sl__law_extension : Array (Option Value)} {oc__law_extension kV__law_extension dc__law_extension pm__law_extension cd__law_extension ct__law_extension : Value}
    (a__law_extension : PySem.W.nsIn K mainGlobals "_law_extension" = some (some (.ref f__law_extension))) (l__law_extension : K.lookup f__law_extension = some ⟨oc__law_extension, od__law_extension, .func (PySem.W.fnOf "_law_extension" "_law_extension" (defArgs s__law_extension) (defBody s__law_extension) (defScope s__law_extension) .none kV__law_extension dc__law_extension pm__law_extension an__law_extension cd__law_extension ct__law_extension), sl__law_extension⟩) (c__law_extension : PySem.W.codeIn K cd__law_extension "_law_extension" = true) (k__law_extension : PySem.W.keepIn K (.ref f__law_extension) = true)
    {f__law_size : Addr} {od__law_size an__law_size : Option Addr} {sl__law_size : Array (Option Value)} {oc__law_size kV__law_size dc__law_size pm__law_size cd__law_size ct__law_size : Value}
    (a__law_size : PySem.W.nsIn K mainGlobals "_law_size" = some (some (.ref f__law_size))) (l__law_size : K.lookup f__law_size = some ⟨oc__law_size, od__law_size, .func (PySem.W.fnOf "_law_size" "_law_size" (defArgs s__law_size) (defBody s__law_size) (defScope s__law_size) .none kV__law_size dc__law_size pm__law_size an__law_size cd__law_size ct__law_size), sl__law_size⟩) (c__law_size : PySem.W.codeIn K cd__law_size "_law_size" = true) (k__law_size : PySem.W.keepIn K (.ref f__law_size) = true)
    {f__law_all_bits : Addr} {od__law_all_bits an__law_all_bits : Option Addr} {sl__law_all_bits : Array (Option Value)} {oc__law_all_bits kV__law_all_bits dc__law_all_bits pm__law_all_bits cd__law_all_bits ct__law_all_bits : Value}
    (a__law_all_bits : PySem.W.nsIn K mainGlobals "_law_all_bits" = some (some (.ref f__law_all_bits))) (l__law_all_bits : K.lookup f__law_all_bits = some ⟨oc__law_all_bits, od__law_all_bits, .func (PySem.W.fnOf "_law_all_bits" "_law_all_bits" (defArgs s__law_all_bits) (defBody s__law_all_bits) (defScope s__law_all_bits) .none kV__law_all_bits dc__law_all_bits pm__law_all_bits an__law_all_bits cd__law_all_bits ct__law_all_bits), sl__law_all_bits⟩) (c__law_all_bits : PySem.W.codeIn K cd__law_all_bits "_law_all_bits" = true) (k__law_all_bits : PySem.W.keepIn K (.ref f__law_all_bits) = true)
    {f__law_number : Addr} {od__law_number an__law_number : Option Addr} {sl__law_number : Array (Option Value)} {oc__law_number kV__law_number dc__law_number pm__law_number cd__law_number ct__law_number : Value}
    (a__law_number : PySem.W.nsIn K mainGlobals "_law_number" = some (some (.ref f__law_number))) (l__law_number : K.lookup f__law_number = some ⟨oc__law_number, od__law_number, .func (PySem.W.fnOf "_law_number" "_law_number" (defArgs s__law_number) (defBody s__law_number) (defScope s__law_number) .none kV__law_number dc__law_number pm__law_number an__law_number cd__law_number ct__law_number), sl__law_number⟩) (c__law_number : PySem.W.codeIn K cd__law_number "_law_number" = true) (k__law_number : PySem.W.keepIn K (.ref f__law_number) = true)
    {f__law_rest : Addr} {od__law_rest an__law_rest : Option Addr} {sl__law_rest : Array (Option Value)} {oc__law_rest kV__law_rest dc__law_rest pm__law_rest cd__law_rest ct__law_rest : Value}
    (a__law_rest : PySem.W.nsIn K mainGlobals "_law_rest" = some (some (.ref f__law_rest))) (l__law_rest : K.lookup f__law_rest = some ⟨oc__law_rest, od__law_rest, .func (PySem.W.fnOf "_law_rest" "_law_rest" (defArgs s__law_rest) (defBody s__law_rest) (defScope s__law_rest) .none kV__law_rest dc__law_rest pm__law_rest an__law_rest cd__law_rest ct__law_rest), sl__law_rest⟩) (c__law_rest : PySem.W.codeIn K cd__law_rest "_law_rest" = true) (k__law_rest : PySem.W.keepIn K (.ref f__law_rest) = true)
    {f__law_values : Addr} {od__law_values an__law_values : Option Addr} {sl__law_values : Array (Option Value)} {oc__law_values kV__law_values dc__law_values pm__law_values cd__law_values ct__law_values : Value}
    (a__law_values : PySem.W.nsIn K mainGlobals "_law_values" = some (some (.ref f__law_values))) (l__law_values : K.lookup f__law_values = some ⟨oc__law_values, od__law_values, .func (PySem.W.fnOf "_law_values" "_law_values" (defArgs s__law_values) (defBody s__law_values) (defScope s__law_values) .none kV__law_values dc__law_values pm__law_values an__law_values cd__law_values ct__law_values), sl__law_values⟩) (c__law_values : PySem.W.codeIn K cd__law_values "_law_values" = true) (k__law_values : PySem.W.keepIn K (.ref f__law_values) = true)
    {f__law_first_fault : Addr} {od__law_first_fault an__law_first_fault : Option Addr} {sl__law_first_fault : Array (Option Value)} {oc__law_first_fault kV__law_first_fault dc__law_first_fault pm__law_first_fault cd__law_first_fault ct__law_first_fault : Value}
    (a__law_first_fault : PySem.W.nsIn K mainGlobals "_law_first_fault" = some (some (.ref f__law_first_fault))) (l__law_first_fault : K.lookup f__law_first_fault = some ⟨oc__law_first_fault, od__law_first_fault, .func (PySem.W.fnOf "_law_first_fault" "_law_first_fault" (defArgs s__law_first_fault) (defBody s__law_first_fault) (defScope s__law_first_fault) .none kV__law_first_fault dc__law_first_fault pm__law_first_fault an__law_first_fault cd__law_first_fault ct__law_first_fault), sl__law_first_fault⟩) (c__law_first_fault : PySem.W.codeIn K cd__law_first_fault "_law_first_fault" = true) (k__law_first_fault : PySem.W.keepIn K (.ref f__law_first_fault) = true)
    {f__law_first_missed : Addr} {od__law_first_missed an__law_first_missed : Option Addr} {sl__law_first_missed : Array (Option Value)} {oc__law_first_missed kV__law_first_missed dc__law_first_missed pm__law_first_missed cd__law_first_missed ct__law_first_missed : Value}
    (a__law_first_missed : PySem.W.nsIn K mainGlobals "_law_first_missed" = some (some (.ref f__law_first_missed))) (l__law_first_missed : K.lookup f__law_first_missed = some ⟨oc__law_first_missed, od__law_first_missed, .func (PySem.W.fnOf "_law_first_missed" "_law_first_missed" (defArgs s__law_first_missed) (defBody s__law_first_missed) (defScope s__law_first_missed) .none kV__law_first_missed dc__law_first_missed pm__law_first_missed an__law_first_missed cd__law_first_missed ct__law_first_missed), sl__law_first_missed⟩) (c__law_first_missed : PySem.W.codeIn K cd__law_first_missed "_law_first_missed" = true) (k__law_first_missed : PySem.W.keepIn K (.ref f__law_first_missed) = true)
    {f__law_false_rounds : Addr} {od__law_false_rounds an__law_false_rounds : Option Addr} {sl__law_false_rounds : Array (Option Value)} {oc__law_false_rounds kV__law_false_rounds dc__law_false_rounds pm__law_false_rounds cd__law_false_rounds ct__law_false_rounds : Value}
    (a__law_false_rounds : PySem.W.nsIn K mainGlobals "_law_false_rounds" = some (some (.ref f__law_false_rounds))) (l__law_false_rounds : K.lookup f__law_false_rounds = some ⟨oc__law_false_rounds, od__law_false_rounds, .func (PySem.W.fnOf "_law_false_rounds" "_law_false_rounds" (defArgs s__law_false_rounds) (defBody s__law_false_rounds) (defScope s__law_false_rounds) .none kV__law_false_rounds dc__law_false_rounds pm__law_false_rounds an__law_false_rounds cd__law_false_rounds ct__law_false_rounds), sl__law_false_rounds⟩) (c__law_false_rounds : PySem.W.codeIn K cd__law_false_rounds "_law_false_rounds" = true) (k__law_false_rounds : PySem.W.keepIn K (.ref f__law_false_rounds) = true)
    {f_law : Addr} {od_law an_law : Option Addr} {sl_law : Array (Option Value)} {oc_law kV_law dc_law pm_law cd_law ct_law : Value}
    (a_law : PySem.W.nsIn K mainGlobals "law" = some (some (.ref f_law))) (l_law : K.lookup f_law = some ⟨oc_law, od_law, .func (PySem.W.fnOf "law" "law" (defArgs s_law) (defBody s_law) (defScope s_law) .none kV_law dc_law pm_law an_law cd_law ct_law), sl_law⟩) (c_law : PySem.W.codeIn K cd_law "law" = true) (k_law : PySem.W.keepIn K (.ref f_law) = true)
    (z_abs : PySem.W.nsIn K mainGlobals "abs" = some none)
    (z_bool : PySem.W.nsIn K mainGlobals "bool" = some none)
    (z_enumerate : PySem.W.nsIn K mainGlobals "enumerate" = some none)
    (z_int : PySem.W.nsIn K mainGlobals "int" = some none)
    (z_isinstance : PySem.W.nsIn K mainGlobals "isinstance" = some none)
    (z_len : PySem.W.nsIn K mainGlobals "len" = some none)
    (z_list : PySem.W.nsIn K mainGlobals "list" = some none)
    (z_min : PySem.W.nsIn K mainGlobals "min" = some none)
    (z_range : PySem.W.nsIn K mainGlobals "range" = some none)
    (z_str : PySem.W.nsIn K mainGlobals "str" = some none)
    (z_sum : PySem.W.nsIn K mainGlobals "sum" = some none)
    (z_tuple : PySem.W.nsIn K mainGlobals "tuple" = some none)
    (z_zip : PySem.W.nsIn K mainGlobals "zip" = some none)
    {ad_DEGREES : Addr} {es_DEGREES : Array DictEntry} {n_DEGREES : Nat} (m_DEGREES : PySem.W.nsIn K mainGlobals "DEGREES" = some (some (.ref ad_DEGREES))) (o_DEGREES : K.lookup ad_DEGREES = some ⟨.type "dict", none, .dict es_DEGREES n_DEGREES, #[]⟩) (q_DEGREES : PySem.W.KeysLit w.params es_DEGREES.toList) (lo_DEGREES : (ad_DEGREES == sysModules) = false)
    {t_DEGREES_0 : Tok} (m_DEGREES_0 : PySem.W.nsIn K ad_DEGREES "one" = some (some (.int 1 t_DEGREES_0)))
    {t_DEGREES_1 : Tok} (m_DEGREES_1 : PySem.W.nsIn K ad_DEGREES "two" = some (some (.int 2 t_DEGREES_1)))
    {t_DEGREES_2 : Tok} (m_DEGREES_2 : PySem.W.nsIn K ad_DEGREES "three" = some (some (.int 3 t_DEGREES_2)))
    {t_DEGREES_3 : Tok} (m_DEGREES_3 : PySem.W.nsIn K ad_DEGREES "choice" = some (some (.int 3 t_DEGREES_3)))
    : ∃ fd : FuncData, (∀ (s : Shared) (v : Value), BindsTo s fd ⟨[v], []⟩ [("script", v)]) ∧ ∀ base : Heap, K.In base → base.Ns mainGlobals mg → LawOk l.prog w K mg base fa fd ["script"] spLaw0 := by
  have e := hfa.symm.trans (PySem.W.mg_of X G a_law)
  cases e
  letI : ClsA := ⟨A_Summer⟩
  have T : Txt w K mg := ⟨PySem.W.mg_none_of X G z_abs, PySem.W.mg_none_of X G z_bool, PySem.W.mg_none_of X G z_enumerate, PySem.W.mg_none_of X G z_int, PySem.W.mg_none_of X G z_isinstance, PySem.W.mg_none_of X G z_len, PySem.W.mg_none_of X G z_list, PySem.W.mg_none_of X G z_min, PySem.W.mg_none_of X G z_range, PySem.W.mg_none_of X G z_str, PySem.W.mg_none_of X G z_sum, PySem.W.mg_none_of X G z_tuple, PySem.W.mg_none_of X G z_zip, gdct_mk (PySem.W.mg_of X G m_DEGREES) lo_DEGREES o_DEGREES q_DEGREES ⟨⟨_, .int 1, m_DEGREES_0, ⟨_, rfl⟩, fun _ => by simp [Rep]⟩, ⟨⟨_, .int 2, m_DEGREES_1, ⟨_, rfl⟩, fun _ => by simp [Rep]⟩, ⟨⟨_, .int 3, m_DEGREES_2, ⟨_, rfl⟩, fun _ => by simp [Rep]⟩, ⟨⟨_, .int 3, m_DEGREES_3, ⟨_, rfl⟩, fun _ => by simp [Rep]⟩, trivial⟩⟩⟩⟩, ⟨A2_Summer, A3_Summer, A4_Summer, A5_Summer⟩, An_Summer_its_p, An_Summer_its_point, An_Summer_its_tables, An_Summer_its_word⟩
  have F_times := fun_mk (st := s_times) l_times c_times k_times
  have b_times := F_times.binds (ps := ["p", "one", "other"]) fun _ _ _ _ _ _ us hl => match us, hl with | [_, _, _], _ => rfl
  have F_summed := fun_mk (st := s_summed) l_summed c_summed k_summed
  have b_summed := F_summed.binds (ps := ["p", "some"]) fun _ _ _ _ _ _ us hl => match us, hl with | [_, _], _ => rfl
  have F_product_of := fun_mk (st := s_product_of) l_product_of c_product_of k_product_of
  have b_product_of := F_product_of.binds (ps := ["p", "some"]) fun _ _ _ _ _ _ us hl => match us, hl with | [_, _], _ => rfl
  have F_power := fun_mk (st := s_power) l_power c_power k_power
  have b_power := F_power.binds (ps := ["p", "one", "many"]) fun _ _ _ _ _ _ us hl => match us, hl with | [_, _, _], _ => rfl
  have F_inverse := fun_mk (st := s_inverse) l_inverse c_inverse k_inverse
  have b_inverse := F_inverse.binds (ps := ["p", "one"]) fun _ _ _ _ _ _ us hl => match us, hl with | [_, _], _ => rfl
  have F_basis_at := fun_mk (st := s_basis_at) l_basis_at c_basis_at k_basis_at
  have b_basis_at := F_basis_at.binds (ps := ["p", "many", "place", "number"]) fun _ _ _ _ _ _ us hl => match us, hl with | [_, _, _, _], _ => rfl
  have F_value_at := fun_mk (st := s_value_at) l_value_at c_value_at k_value_at
  have b_value_at := F_value_at.binds (ps := ["p", "values", "number"]) fun _ _ _ _ _ _ us hl => match us, hl with | [_, _, _], _ => rfl
  have F_bits_of := fun_mk (st := s_bits_of) l_bits_of c_bits_of k_bits_of
  have b_bits_of := F_bits_of.binds (ps := ["table"]) fun _ _ _ _ _ _ us hl => match us, hl with | [_], _ => rfl
  have F_weights := fun_mk (st := s_weights) l_weights c_weights k_weights
  have b_weights := F_weights.binds (ps := ["p", "point"]) fun _ _ _ _ _ _ us hl => match us, hl with | [_, _], _ => rfl
  have F_extension := fun_mk (st := s_extension) l_extension c_extension k_extension
  have b_extension := F_extension.binds (ps := ["p", "table", "point"]) fun _ _ _ _ _ _ us hl => match us, hl with | [_, _, _], _ => rfl
  have F_fixed := fun_mk (st := s_fixed) l_fixed c_fixed k_fixed
  have b_fixed := F_fixed.binds (ps := ["p", "table", "number"]) fun _ _ _ _ _ _ us hl => match us, hl with | [_, _, _], _ => rfl
  have F_degree_of := fun_mk (st := s_degree_of) l_degree_of c_degree_of k_degree_of
  have b_degree_of := F_degree_of.binds (ps := ["word"]) fun _ _ _ _ _ _ us hl => match us, hl with | [_], _ => rfl
  have F_number_of := fun_mk (st := s_number_of) l_number_of c_number_of k_number_of
  have b_number_of := F_number_of.binds (ps := ["p", "word", "numbers"]) fun _ _ _ _ _ _ us hl => match us, hl with | [_, _, _], _ => rfl
  have F_whole_sum := fun_mk (st := s_whole_sum) l_whole_sum c_whole_sum k_whole_sum
  have b_whole_sum := F_whole_sum.binds (ps := ["p", "word", "tables"]) fun _ _ _ _ _ _ us hl => match us, hl with | [_, _, _], _ => rfl
  have F_all_points := fun_mk (st := s_all_points) l_all_points c_all_points k_all_points
  have b_all_points := F_all_points.binds (ps := ["bits"]) fun _ _ _ _ _ _ us hl => match us, hl with | [_], _ => rfl
  have F_number_at := fun_mk (st := s_number_at) l_number_at c_number_at k_number_at
  have b_number_at := F_number_at.binds (ps := ["p", "word", "tables", "point"]) fun _ _ _ _ _ _ us hl => match us, hl with | [_, _, _, _], _ => rfl
  have F_rest_sum := fun_mk (st := s_rest_sum) l_rest_sum c_rest_sum k_rest_sum
  have b_rest_sum := F_rest_sum.binds (ps := ["p", "word", "tables", "challenges"]) fun _ _ _ _ _ _ us hl => match us, hl with | [_, _, _, _], _ => rfl
  have F_fixed_all := fun_mk (st := s_fixed_all) l_fixed_all c_fixed_all k_fixed_all
  have b_fixed_all := F_fixed_all.binds (ps := ["p", "tables", "number"]) fun _ _ _ _ _ _ us hl => match us, hl with | [_, _, _], _ => rfl
  have F_round_of := fun_mk (st := s_round_of) l_round_of c_round_of k_round_of
  have b_round_of := F_round_of.binds (ps := ["p", "word", "tables"]) fun _ _ _ _ _ _ us hl => match us, hl with | [_, _, _], _ => rfl
  have F_Summer___init__ := fun_mk (st := s_Summer___init__) l_Summer___init__ c_Summer___init__ k_Summer___init__
  have b_Summer___init__ := F_Summer___init__.binds (ps := ["self", "p", "word", "tables"]) fun _ _ _ _ _ _ us hl => match us, hl with | [_, _, _, _], _ => rfl
  have F_Summer_told := fun_mk (st := s_Summer_told) l_Summer_told c_Summer_told k_Summer_told
  have b_Summer_told := F_Summer_told.binds (ps := ["self"]) fun _ _ _ _ _ _ us hl => match us, hl with | [_], _ => rfl
  have F_Summer_draw := fun_mk (st := s_Summer_draw) l_Summer_draw c_Summer_draw k_Summer_draw
  have b_Summer_draw := F_Summer_draw.binds (ps := ["self", "number"]) fun _ _ _ _ _ _ us hl => match us, hl with | [_, _], _ => rfl
  have F_rounds_of := fun_mk (st := s_rounds_of) l_rounds_of c_rounds_of k_rounds_of
  have b_rounds_of := F_rounds_of.binds (ps := ["p", "word", "tables", "challenges"]) fun _ _ _ _ _ _ us hl => match us, hl with | [_, _, _, _], _ => rfl
  have F_last_numbers := fun_mk (st := s_last_numbers) l_last_numbers c_last_numbers k_last_numbers
  have b_last_numbers := F_last_numbers.binds (ps := ["p", "word", "tables", "challenges"]) fun _ _ _ _ _ _ us hl => match us, hl with | [_, _, _, _], _ => rfl
  have F_does_open := fun_mk (st := s_does_open) l_does_open c_does_open k_does_open
  have b_does_open := F_does_open.binds (ps := ["p", "value", "told"]) fun _ _ _ _ _ _ us hl => match us, hl with | [_, _, _], _ => rfl
  have F_next_value := fun_mk (st := s_next_value) l_next_value c_next_value k_next_value
  have b_next_value := F_next_value.binds (ps := ["p", "told", "challenge"]) fun _ _ _ _ _ _ us hl => match us, hl with | [_, _, _], _ => rfl
  have F_values_ahead := fun_mk (st := s_values_ahead) l_values_ahead c_values_ahead k_values_ahead
  have b_values_ahead := F_values_ahead.binds (ps := ["p", "value", "rounds", "challenges"]) fun _ _ _ _ _ _ us hl => match us, hl with | [_, _, _, _], _ => rfl
  have F_round_fault := fun_mk (st := s_round_fault) l_round_fault c_round_fault k_round_fault
  have b_round_fault := F_round_fault.binds (ps := ["p", "value", "rounds", "challenges"]) fun _ _ _ _ _ _ us hl => match us, hl with | [_, _, _, _], _ => rfl
  have F_last_value := fun_mk (st := s_last_value) l_last_value c_last_value k_last_value
  have b_last_value := F_last_value.binds (ps := ["p", "value", "rounds", "challenges"]) fun _ _ _ _ _ _ us hl => match us, hl with | [_, _, _, _], _ => rfl
  have F_missed := fun_mk (st := s_missed) l_missed c_missed k_missed
  have b_missed := F_missed.binds (ps := ["p", "word", "tables", "value", "rounds", "challenges"]) fun _ _ _ _ _ _ us hl => match us, hl with | [_, _, _, _, _, _], _ => rfl
  have F__law_bag := fun_mk (st := s__law_bag) l__law_bag c__law_bag k__law_bag
  have b__law_bag := F__law_bag.binds (ps := ["script"]) fun _ _ _ _ _ _ us hl => match us, hl with | [_], _ => rfl
  have F__law_take := fun_mk (st := s__law_take) l__law_take c__law_take k__law_take
  have b__law_take := F__law_take.binds (ps := ["bag", "many"]) fun _ _ _ _ _ _ us hl => match us, hl with | [_, _], _ => rfl
  have F__law_some := fun_mk (st := s__law_some) l__law_some c__law_some k__law_some
  have b__law_some := F__law_some.binds (ps := ["bag", "things"]) fun _ _ _ _ _ _ us hl => match us, hl with | [_, _], _ => rfl
  have F__law_alike := fun_mk (st := s__law_alike) l__law_alike c__law_alike k__law_alike
  have b__law_alike := F__law_alike.binds (ps := ["found", "due"]) fun _ _ _ _ _ _ us hl => match us, hl with | [_, _], _ => rfl
  have F__law_inverse := fun_mk (st := s__law_inverse) l__law_inverse c__law_inverse k__law_inverse
  have b__law_inverse := F__law_inverse.binds (ps := ["p", "one"]) fun _ _ _ _ _ _ us hl => match us, hl with | [_, _], _ => rfl
  have F__law_curve := fun_mk (st := s__law_curve) l__law_curve c__law_curve k__law_curve
  have b__law_curve := F__law_curve.binds (ps := ["p", "values", "number"]) fun _ _ _ _ _ _ us hl => match us, hl with | [_, _, _], _ => rfl
  have F__law_bits := fun_mk (st := s__law_bits) l__law_bits c__law_bits k__law_bits
  have b__law_bits := F__law_bits.binds (ps := ["index", "many"]) fun _ _ _ _ _ _ us hl => match us, hl with | [_, _], _ => rfl
  have F__law_weight := fun_mk (st := s__law_weight) l__law_weight c__law_weight k__law_weight
  have b__law_weight := F__law_weight.binds (ps := ["p", "bits", "point"]) fun _ _ _ _ _ _ us hl => match us, hl with | [_, _, _], _ => rfl
  have F__law_extension := fun_mk (st := s__law_extension) l__law_extension c__law_extension k__law_extension
  have b__law_extension := F__law_extension.binds (ps := ["p", "table", "point"]) fun _ _ _ _ _ _ us hl => match us, hl with | [_, _, _], _ => rfl
  have F__law_size := fun_mk (st := s__law_size) l__law_size c__law_size k__law_size
  have b__law_size := F__law_size.binds (ps := ["table"]) fun _ _ _ _ _ _ us hl => match us, hl with | [_], _ => rfl
  have F__law_all_bits := fun_mk (st := s__law_all_bits) l__law_all_bits c__law_all_bits k__law_all_bits
  have b__law_all_bits := F__law_all_bits.binds (ps := ["many"]) fun _ _ _ _ _ _ us hl => match us, hl with | [_], _ => rfl
  have F__law_number := fun_mk (st := s__law_number) l__law_number c__law_number k__law_number
  have b__law_number := F__law_number.binds (ps := ["p", "word", "values"]) fun _ _ _ _ _ _ us hl => match us, hl with | [_, _, _], _ => rfl
  have F__law_rest := fun_mk (st := s__law_rest) l__law_rest c__law_rest k__law_rest
  have b__law_rest := F__law_rest.binds (ps := ["p", "word", "tables", "challenges"]) fun _ _ _ _ _ _ us hl => match us, hl with | [_, _, _, _], _ => rfl
  have F__law_values := fun_mk (st := s__law_values) l__law_values c__law_values k__law_values
  have b__law_values := F__law_values.binds (ps := ["p", "value", "rounds", "challenges"]) fun _ _ _ _ _ _ us hl => match us, hl with | [_, _, _, _], _ => rfl
  have F__law_first_fault := fun_mk (st := s__law_first_fault) l__law_first_fault c__law_first_fault k__law_first_fault
  have b__law_first_fault := F__law_first_fault.binds (ps := ["p", "values", "rounds"]) fun _ _ _ _ _ _ us hl => match us, hl with | [_, _, _], _ => rfl
  have F__law_first_missed := fun_mk (st := s__law_first_missed) l__law_first_missed c__law_first_missed k__law_first_missed
  have b__law_first_missed := F__law_first_missed.binds (ps := ["p", "word", "tables", "values", "challenges"]) fun _ _ _ _ _ _ us hl => match us, hl with | [_, _, _, _, _], _ => rfl
  have F__law_false_rounds := fun_mk (st := s__law_false_rounds) l__law_false_rounds c__law_false_rounds k__law_false_rounds
  have b__law_false_rounds := F__law_false_rounds.binds (ps := ["bag", "p", "word", "tables", "value", "degree", "bits"]) fun _ _ _ _ _ _ us hl => match us, hl with | [_, _, _, _, _, _, _], _ => rfl
  refine ⟨PySem.W.fnOf "law" "law" (defArgs s_law) (defBody s_law) (defScope s_law) .none kV_law dc_law pm_law an_law cd_law ct_law, fun s v => .of_eq rfl, fun base _ _ => ?_⟩
  have G_times : Kn l.prog w K mg base "times" 1 sp_times := ⟨_, _, _, ok_times F_times T, PySem.W.mg_of X G a_times, k_times, b_times⟩
  have G_summed : Kn l.prog w K mg base "summed" 1 sp_summed := ⟨_, _, _, ok_summed F_summed T, PySem.W.mg_of X G a_summed, k_summed, b_summed⟩
  have G_product_of : Kn l.prog w K mg base "product_of" 1 sp_product_of := ⟨_, _, _, ok_product_of F_product_of T, PySem.W.mg_of X G a_product_of, k_product_of, b_product_of⟩
  have G_power : Kn l.prog w K mg base "power" 1 sp_power := ⟨_, _, _, ok_power F_power T, PySem.W.mg_of X G a_power, k_power, b_power⟩
  have G_inverse : Kn l.prog w K mg base "inverse" 2 sp_inverse := ⟨_, _, _, ok_inverse F_inverse T G_power, PySem.W.mg_of X G a_inverse, k_inverse, b_inverse⟩
  have G_basis_at : Kn l.prog w K mg base "basis_at" 3 sp_basis_at := ⟨_, _, _, ok_basis_at F_basis_at T G_product_of G_times G_inverse, PySem.W.mg_of X G a_basis_at, k_basis_at, b_basis_at⟩
  have G_value_at : Kn l.prog w K mg base "value_at" 4 sp_value_at := ⟨_, _, _, ok_value_at F_value_at T G_summed G_basis_at, PySem.W.mg_of X G a_value_at, k_value_at, b_value_at⟩
  have G_bits_of : Kn l.prog w K mg base "bits_of" 1 sp_bits_of := ⟨_, _, _, ok_bits_of F_bits_of T, PySem.W.mg_of X G a_bits_of, k_bits_of, b_bits_of⟩
  have G_weights : Kn l.prog w K mg base "weights" 1 sp_weights := ⟨_, _, _, ok_weights F_weights T, PySem.W.mg_of X G a_weights, k_weights, b_weights⟩
  have G_extension : Kn l.prog w K mg base "extension" 2 sp_extension := ⟨_, _, _, ok_extension F_extension T G_summed G_weights, PySem.W.mg_of X G a_extension, k_extension, b_extension⟩
  have G_fixed : Kn l.prog w K mg base "fixed" 1 sp_fixed := ⟨_, _, _, ok_fixed F_fixed T, PySem.W.mg_of X G a_fixed, k_fixed, b_fixed⟩
  have G_degree_of : Kn l.prog w K mg base "degree_of" 1 sp_degree_of := ⟨_, _, _, ok_degree_of F_degree_of T, PySem.W.mg_of X G a_degree_of, k_degree_of, b_degree_of⟩
  have G_number_of : Kn l.prog w K mg base "number_of" 1 sp_number_of := ⟨_, _, _, ok_number_of F_number_of T, PySem.W.mg_of X G a_number_of, k_number_of, b_number_of⟩
  have G_whole_sum : Kn l.prog w K mg base "whole_sum" 2 sp_whole_sum := ⟨_, _, _, ok_whole_sum F_whole_sum T G_summed G_number_of, PySem.W.mg_of X G a_whole_sum, k_whole_sum, b_whole_sum⟩
  have G_all_points : Kn l.prog w K mg base "all_points" 1 sp_all_points := ⟨_, _, _, ok_all_points F_all_points T, PySem.W.mg_of X G a_all_points, k_all_points, b_all_points⟩
  have G_number_at : Kn l.prog w K mg base "number_at" 3 sp_number_at := ⟨_, _, _, ok_number_at F_number_at T G_number_of G_extension, PySem.W.mg_of X G a_number_at, k_number_at, b_number_at⟩
  have G_rest_sum : Kn l.prog w K mg base "rest_sum" 4 sp_rest_sum := ⟨_, _, _, ok_rest_sum F_rest_sum T G_bits_of G_summed G_all_points G_number_at, PySem.W.mg_of X G a_rest_sum, k_rest_sum, b_rest_sum⟩
  have G_fixed_all : Kn l.prog w K mg base "fixed_all" 2 sp_fixed_all := ⟨_, _, _, ok_fixed_all F_fixed_all T G_fixed, PySem.W.mg_of X G a_fixed_all, k_fixed_all, b_fixed_all⟩
  have G_round_of : Kn l.prog w K mg base "round_of" 3 sp_round_of := ⟨_, _, _, ok_round_of F_round_of T G_degree_of G_whole_sum G_fixed_all, PySem.W.mg_of X G a_round_of, k_round_of, b_round_of⟩
  have C_Summer : KnC l.prog w K mg base ClsA.Summer "Summer" 1 sp_Summer___init__ := ⟨_, _, _, ok_Summer___init__ F_Summer___init__ T, ⟨A6_Summer, a_Summer___init__, i_Summer___init__, A7_Summer⟩, b_Summer___init__, PySem.W.mg_of X G A1_Summer⟩
  have M_Summer_told : KnM l.prog w K mg base ClsA.Summer "told" 4 sp_Summer_told := ⟨_, _, _, ok_Summer_told F_Summer_told T G_round_of, ⟨a_Summer_told, i_Summer_told, k_Summer_told⟩, b_Summer_told⟩
  have M_Summer_draw : KnM l.prog w K mg base ClsA.Summer "draw" 3 sp_Summer_draw := ⟨_, _, _, ok_Summer_draw F_Summer_draw T G_fixed_all, ⟨a_Summer_draw, i_Summer_draw, k_Summer_draw⟩, b_Summer_draw⟩
  have G_rounds_of : Kn l.prog w K mg base "rounds_of" 5 sp_rounds_of := ⟨_, _, _, ok_rounds_of F_rounds_of T C_Summer M_Summer_told M_Summer_draw, PySem.W.mg_of X G a_rounds_of, k_rounds_of, b_rounds_of⟩
  have G_last_numbers : Kn l.prog w K mg base "last_numbers" 3 sp_last_numbers := ⟨_, _, _, ok_last_numbers F_last_numbers T G_extension, PySem.W.mg_of X G a_last_numbers, k_last_numbers, b_last_numbers⟩
  have G_does_open : Kn l.prog w K mg base "does_open" 1 sp_does_open := ⟨_, _, _, ok_does_open F_does_open T, PySem.W.mg_of X G a_does_open, k_does_open, b_does_open⟩
  have G_next_value : Kn l.prog w K mg base "next_value" 5 sp_next_value := ⟨_, _, _, ok_next_value F_next_value T G_value_at, PySem.W.mg_of X G a_next_value, k_next_value, b_next_value⟩
  have G_values_ahead : Kn l.prog w K mg base "values_ahead" 6 sp_values_ahead := ⟨_, _, _, ok_values_ahead F_values_ahead T G_next_value, PySem.W.mg_of X G a_values_ahead, k_values_ahead, b_values_ahead⟩
  have G_round_fault : Kn l.prog w K mg base "round_fault" 7 sp_round_fault := ⟨_, _, _, ok_round_fault F_round_fault T G_values_ahead G_does_open, PySem.W.mg_of X G a_round_fault, k_round_fault, b_round_fault⟩
  have G_last_value : Kn l.prog w K mg base "last_value" 7 sp_last_value := ⟨_, _, _, ok_last_value F_last_value T G_values_ahead, PySem.W.mg_of X G a_last_value, k_last_value, b_last_value⟩
  have G_missed : Kn l.prog w K mg base "missed" 7 sp_missed := ⟨_, _, _, ok_missed F_missed T G_values_ahead G_rest_sum, PySem.W.mg_of X G a_missed, k_missed, b_missed⟩
  have G__law_bag : Kn l.prog w K mg base "_law_bag" 1 sp__law_bag := ⟨_, _, _, ok__law_bag F__law_bag T, PySem.W.mg_of X G a__law_bag, k__law_bag, b__law_bag⟩
  have G__law_take : Kn l.prog w K mg base "_law_take" 1 sp__law_take := ⟨_, _, _, ok__law_take F__law_take T, PySem.W.mg_of X G a__law_take, k__law_take, b__law_take⟩
  have G__law_some : Kn l.prog w K mg base "_law_some" 2 sp__law_some := ⟨_, _, _, ok__law_some F__law_some T G__law_take, PySem.W.mg_of X G a__law_some, k__law_some, b__law_some⟩
  have G__law_alike : Kn l.prog w K mg base "_law_alike" 1 sp__law_alike := ⟨_, _, _, ok__law_alike F__law_alike T, PySem.W.mg_of X G a__law_alike, k__law_alike, b__law_alike⟩
  have G__law_inverse : Kn l.prog w K mg base "_law_inverse" 1 sp__law_inverse := ⟨_, _, _, ok__law_inverse F__law_inverse T, PySem.W.mg_of X G a__law_inverse, k__law_inverse, b__law_inverse⟩
  have G__law_curve : Kn l.prog w K mg base "_law_curve" 2 sp__law_curve := ⟨_, _, _, ok__law_curve F__law_curve T G__law_inverse, PySem.W.mg_of X G a__law_curve, k__law_curve, b__law_curve⟩
  have G__law_bits : Kn l.prog w K mg base "_law_bits" 1 sp__law_bits := ⟨_, _, _, ok__law_bits F__law_bits T, PySem.W.mg_of X G a__law_bits, k__law_bits, b__law_bits⟩
  have G__law_weight : Kn l.prog w K mg base "_law_weight" 1 sp__law_weight := ⟨_, _, _, ok__law_weight F__law_weight T, PySem.W.mg_of X G a__law_weight, k__law_weight, b__law_weight⟩
  have G__law_extension : Kn l.prog w K mg base "_law_extension" 2 sp__law_extension := ⟨_, _, _, ok__law_extension F__law_extension T G__law_weight G__law_bits, PySem.W.mg_of X G a__law_extension, k__law_extension, b__law_extension⟩
  have G__law_size : Kn l.prog w K mg base "_law_size" 1 sp__law_size := ⟨_, _, _, ok__law_size F__law_size T, PySem.W.mg_of X G a__law_size, k__law_size, b__law_size⟩
  have G__law_all_bits : Kn l.prog w K mg base "_law_all_bits" 1 sp__law_all_bits := ⟨_, _, _, ok__law_all_bits F__law_all_bits T, PySem.W.mg_of X G a__law_all_bits, k__law_all_bits, b__law_all_bits⟩
  have G__law_number : Kn l.prog w K mg base "_law_number" 1 sp__law_number := ⟨_, _, _, ok__law_number F__law_number T, PySem.W.mg_of X G a__law_number, k__law_number, b__law_number⟩
  have G__law_rest : Kn l.prog w K mg base "_law_rest" 3 sp__law_rest := ⟨_, _, _, ok__law_rest F__law_rest T G__law_size G__law_all_bits G__law_number G__law_extension, PySem.W.mg_of X G a__law_rest, k__law_rest, b__law_rest⟩
  have G__law_values : Kn l.prog w K mg base "_law_values" 3 sp__law_values := ⟨_, _, _, ok__law_values F__law_values T G__law_curve, PySem.W.mg_of X G a__law_values, k__law_values, b__law_values⟩
  have G__law_first_fault : Kn l.prog w K mg base "_law_first_fault" 1 sp__law_first_fault := ⟨_, _, _, ok__law_first_fault F__law_first_fault T, PySem.W.mg_of X G a__law_first_fault, k__law_first_fault, b__law_first_fault⟩
  have G__law_first_missed : Kn l.prog w K mg base "_law_first_missed" 4 sp__law_first_missed := ⟨_, _, _, ok__law_first_missed F__law_first_missed T G__law_rest, PySem.W.mg_of X G a__law_first_missed, k__law_first_missed, b__law_first_missed⟩
  have G__law_false_rounds : Kn l.prog w K mg base "_law_false_rounds" 4 sp__law_false_rounds := ⟨_, _, _, ok__law_false_rounds F__law_false_rounds T G__law_rest G__law_take G__law_curve G__law_some, PySem.W.mg_of X G a__law_false_rounds, k__law_false_rounds, b__law_false_rounds⟩
  exact ok_law (fun_mk (st := s_law) l_law c_law k_law) T G__law_bag G__law_take G__law_some G__law_rest G__law_false_rounds G__law_values G__law_first_missed G__law_first_fault G_does_open G_next_value G_last_value G_round_fault G__law_alike G_missed G_number_of G_last_numbers G_rounds_of G_whole_sum

end Law
open PySem PySem.W PyProof.Rows in
theorem PySem.Challenge.cw_askedfew_k18_rounds_as_anybody_tells_the_holds : PySem.Challenge.rw_askedfew_k18_rounds_as_anybody_tells_the.Holds := by
  w_on; o_law; k_head; (case hw => w_witness2)
  k_fill
  refine DL.law_walk (x := "script") (l := PySem.Challenge.rw_askedfew_k18_rounds_as_anybody_tells_the) rfl rfl (fun w h Y => PySem.W.kIn_of Y) ?F
  case F =>
    intro w mg fa h KX G hmg
    refine' Law.all_mk KX G hmg ?A1_Summer ?A2_Summer ?A3_Summer ?A4_Summer ?A5_Summer ?A6_Summer ?A7_Summer ?An_Summer_its_p ?An_Summer_its_point ?An_Summer_its_tables ?An_Summer_its_word ?a_times ?l_times ?c_times ?k_times ?a_summed ?l_summed ?c_summed ?k_summed ?a_product_of ?l_product_of ?c_product_of ?k_product_of ?a_power ?l_power ?c_power ?k_power ?a_inverse ?l_inverse ?c_inverse ?k_inverse ?a_basis_at ?l_basis_at ?c_basis_at ?k_basis_at ?a_value_at ?l_value_at ?c_value_at ?k_value_at ?a_bits_of ?l_bits_of ?c_bits_of ?k_bits_of ?a_weights ?l_weights ?c_weights ?k_weights ?a_extension ?l_extension ?c_extension ?k_extension ?a_fixed ?l_fixed ?c_fixed ?k_fixed ?a_degree_of ?l_degree_of ?c_degree_of ?k_degree_of ?a_number_of ?l_number_of ?c_number_of ?k_number_of ?a_whole_sum ?l_whole_sum ?c_whole_sum ?k_whole_sum ?a_all_points ?l_all_points ?c_all_points ?k_all_points ?a_number_at ?l_number_at ?c_number_at ?k_number_at ?a_rest_sum ?l_rest_sum ?c_rest_sum ?k_rest_sum ?a_fixed_all ?l_fixed_all ?c_fixed_all ?k_fixed_all ?a_round_of ?l_round_of ?c_round_of ?k_round_of ?a_Summer___init__ ?l_Summer___init__ ?c_Summer___init__ ?k_Summer___init__ ?i_Summer___init__ ?a_Summer_told ?l_Summer_told ?c_Summer_told ?k_Summer_told ?i_Summer_told ?a_Summer_draw ?l_Summer_draw ?c_Summer_draw ?k_Summer_draw ?i_Summer_draw ?a_rounds_of ?l_rounds_of ?c_rounds_of ?k_rounds_of ?a_last_numbers ?l_last_numbers ?c_last_numbers ?k_last_numbers ?a_does_open ?l_does_open ?c_does_open ?k_does_open ?a_next_value ?l_next_value ?c_next_value ?k_next_value ?a_values_ahead ?l_values_ahead ?c_values_ahead ?k_values_ahead ?a_round_fault ?l_round_fault ?c_round_fault ?k_round_fault ?a_last_value ?l_last_value ?c_last_value ?k_last_value ?a_missed ?l_missed ?c_missed ?k_missed ?a__law_bag ?l__law_bag ?c__law_bag ?k__law_bag ?a__law_take ?l__law_take ?c__law_take ?k__law_take ?a__law_some ?l__law_some ?c__law_some ?k__law_some ?a__law_alike ?l__law_alike ?c__law_alike ?k__law_alike ?a__law_inverse ?l__law_inverse ?c__law_inverse ?k__law_inverse ?a__law_curve ?l__law_curve ?c__law_curve ?k__law_curve ?a__law_bits ?l__law_bits ?c__law_bits ?k__law_bits ?a__law_weight ?l__law_weight ?c__law_weight ?k__law_weight ?a__law_extension ?l__law_extension ?c__law_extension ?k__law_extension ?a__law_size ?l__law_size ?c__law_size ?k__law_size ?a__law_all_bits ?l__law_all_bits ?c__law_all_bits ?k__law_all_bits ?a__law_number ?l__law_number ?c__law_number ?k__law_number ?a__law_rest ?l__law_rest ?c__law_rest ?k__law_rest ?a__law_values ?l__law_values ?c__law_values ?k__law_values ?a__law_first_fault ?l__law_first_fault ?c__law_first_fault ?k__law_first_fault ?a__law_first_missed ?l__law_first_missed ?c__law_first_missed ?k__law_first_missed ?a__law_false_rounds ?l__law_false_rounds ?c__law_false_rounds ?k__law_false_rounds ?a_law ?l_law ?c_law ?k_law ?z_abs ?z_bool ?z_enumerate ?z_int ?z_isinstance ?z_len ?z_list ?z_min ?z_range ?z_str ?z_sum ?z_tuple ?z_zip ?m_DEGREES ?o_DEGREES ?q_DEGREES ?lo_DEGREES ?m_DEGREES_0 ?m_DEGREES_1 ?m_DEGREES_2 ?m_DEGREES_3
    (case A1_Summer => k_is)
    (case A2_Summer => k_is)
    (case A3_Summer => k_is)
    (case A4_Summer => k_is)
    (case A5_Summer => k_is)
    (case A6_Summer => k_is)
    (case A7_Summer => k_is)
    (case An_Summer_its_p => k_is)
    (case An_Summer_its_point => k_is)
    (case An_Summer_its_tables => k_is)
    (case An_Summer_its_word => k_is)
    (case a_times => k_is)
    (case l_times => k_is)
    (case c_times => k_is)
    (case k_times => k_is)
    (case a_summed => k_is)
    (case l_summed => k_is)
    (case c_summed => k_is)
    (case k_summed => k_is)
    (case a_product_of => k_is)
    (case l_product_of => k_is)
    (case c_product_of => k_is)
    (case k_product_of => k_is)
    (case a_power => k_is)
    (case l_power => k_is)
    (case c_power => k_is)
    (case k_power => k_is)
    (case a_inverse => k_is)
    (case l_inverse => k_is)
    (case c_inverse => k_is)
    (case k_inverse => k_is)
    (case a_basis_at => k_is)
    (case l_basis_at => k_is)
    (case c_basis_at => k_is)
    (case k_basis_at => k_is)
    (case a_value_at => k_is)
    (case l_value_at => k_is)
    (case c_value_at => k_is)
    (case k_value_at => k_is)
    (case a_bits_of => k_is)
    (case l_bits_of => k_is)
    (case c_bits_of => k_is)
    (case k_bits_of => k_is)
    (case a_weights => k_is)
    (case l_weights => k_is)
    (case c_weights => k_is)
    (case k_weights => k_is)
    (case a_extension => k_is)
    (case l_extension => k_is)
    (case c_extension => k_is)
    (case k_extension => k_is)
    (case a_fixed => k_is)
    (case l_fixed => k_is)
    (case c_fixed => k_is)
    (case k_fixed => k_is)
    (case a_degree_of => k_is)
    (case l_degree_of => k_is)
    (case c_degree_of => k_is)
    (case k_degree_of => k_is)
    (case a_number_of => k_is)
    (case l_number_of => k_is)
    (case c_number_of => k_is)
    (case k_number_of => k_is)
    (case a_whole_sum => k_is)
    (case l_whole_sum => k_is)
    (case c_whole_sum => k_is)
    (case k_whole_sum => k_is)
    (case a_all_points => k_is)
    (case l_all_points => k_is)
    (case c_all_points => k_is)
    (case k_all_points => k_is)
    (case a_number_at => k_is)
    (case l_number_at => k_is)
    (case c_number_at => k_is)
    (case k_number_at => k_is)
    (case a_rest_sum => k_is)
    (case l_rest_sum => k_is)
    (case c_rest_sum => k_is)
    (case k_rest_sum => k_is)
    (case a_fixed_all => k_is)
    (case l_fixed_all => k_is)
    (case c_fixed_all => k_is)
    (case k_fixed_all => k_is)
    (case a_round_of => k_is)
    (case l_round_of => k_is)
    (case c_round_of => k_is)
    (case k_round_of => k_is)
    (case a_Summer___init__ => k_is)
    (case l_Summer___init__ => k_is)
    (case c_Summer___init__ => k_is)
    (case k_Summer___init__ => k_is)
    (case i_Summer___init__ => k_is)
    (case a_Summer_told => k_is)
    (case l_Summer_told => k_is)
    (case c_Summer_told => k_is)
    (case k_Summer_told => k_is)
    (case i_Summer_told => k_is)
    (case a_Summer_draw => k_is)
    (case l_Summer_draw => k_is)
    (case c_Summer_draw => k_is)
    (case k_Summer_draw => k_is)
    (case i_Summer_draw => k_is)
    (case a_rounds_of => k_is)
    (case l_rounds_of => k_is)
    (case c_rounds_of => k_is)
    (case k_rounds_of => k_is)
    (case a_last_numbers => k_is)
    (case l_last_numbers => k_is)
    (case c_last_numbers => k_is)
    (case k_last_numbers => k_is)
    (case a_does_open => k_is)
    (case l_does_open => k_is)
    (case c_does_open => k_is)
    (case k_does_open => k_is)
    (case a_next_value => k_is)
    (case l_next_value => k_is)
    (case c_next_value => k_is)
    (case k_next_value => k_is)
    (case a_values_ahead => k_is)
    (case l_values_ahead => k_is)
    (case c_values_ahead => k_is)
    (case k_values_ahead => k_is)
    (case a_round_fault => k_is)
    (case l_round_fault => k_is)
    (case c_round_fault => k_is)
    (case k_round_fault => k_is)
    (case a_last_value => k_is)
    (case l_last_value => k_is)
    (case c_last_value => k_is)
    (case k_last_value => k_is)
    (case a_missed => k_is)
    (case l_missed => k_is)
    (case c_missed => k_is)
    (case k_missed => k_is)
    (case a__law_bag => k_is)
    (case l__law_bag => k_is)
    (case c__law_bag => k_is)
    (case k__law_bag => k_is)
    (case a__law_take => k_is)
    (case l__law_take => k_is)
    (case c__law_take => k_is)
    (case k__law_take => k_is)
    (case a__law_some => k_is)
    (case l__law_some => k_is)
    (case c__law_some => k_is)
    (case k__law_some => k_is)
    (case a__law_alike => k_is)
    (case l__law_alike => k_is)
    (case c__law_alike => k_is)
    (case k__law_alike => k_is)
    (case a__law_inverse => k_is)
    (case l__law_inverse => k_is)
    (case c__law_inverse => k_is)
    (case k__law_inverse => k_is)
    (case a__law_curve => k_is)
    (case l__law_curve => k_is)
    (case c__law_curve => k_is)
    (case k__law_curve => k_is)
    (case a__law_bits => k_is)
    (case l__law_bits => k_is)
    (case c__law_bits => k_is)
    (case k__law_bits => k_is)
    (case a__law_weight => k_is)
    (case l__law_weight => k_is)
    (case c__law_weight => k_is)
    (case k__law_weight => k_is)
    (case a__law_extension => k_is)
    (case l__law_extension => k_is)
    (case c__law_extension => k_is)
    (case k__law_extension => k_is)
    (case a__law_size => k_is)
    (case l__law_size => k_is)
    (case c__law_size => k_is)
    (case k__law_size => k_is)
    (case a__law_all_bits => k_is)
    (case l__law_all_bits => k_is)
    (case c__law_all_bits => k_is)
    (case k__law_all_bits => k_is)
    (case a__law_number => k_is)
    (case l__law_number => k_is)
    (case c__law_number => k_is)
    (case k__law_number => k_is)
    (case a__law_rest => k_is)
    (case l__law_rest => k_is)
    (case c__law_rest => k_is)
    (case k__law_rest => k_is)
    (case a__law_values => k_is)
    (case l__law_values => k_is)
    (case c__law_values => k_is)
    (case k__law_values => k_is)
    (case a__law_first_fault => k_is)
    (case l__law_first_fault => k_is)
    (case c__law_first_fault => k_is)
    (case k__law_first_fault => k_is)
    (case a__law_first_missed => k_is)
    (case l__law_first_missed => k_is)
    (case c__law_first_missed => k_is)
    (case k__law_first_missed => k_is)
    (case a__law_false_rounds => k_is)
    (case l__law_false_rounds => k_is)
    (case c__law_false_rounds => k_is)
    (case k__law_false_rounds => k_is)
    (case a_law => k_is)
    (case l_law => k_is)
    (case c_law => k_is)
    (case k_law => k_is)
    (case z_abs => k_is)
    (case z_bool => k_is)
    (case z_enumerate => k_is)
    (case z_int => k_is)
    (case z_isinstance => k_is)
    (case z_len => k_is)
    (case z_list => k_is)
    (case z_min => k_is)
    (case z_range => k_is)
    (case z_str => k_is)
    (case z_sum => k_is)
    (case z_tuple => k_is)
    (case z_zip => k_is)
    (case m_DEGREES => k_is)
    (case o_DEGREES => k_is)
    (case q_DEGREES => k_keys)
    (case lo_DEGREES => decide)
    (case m_DEGREES_0 => k_is)
    (case m_DEGREES_1 => k_is)
    (case m_DEGREES_2 => k_is)
    (case m_DEGREES_3 => k_is)

