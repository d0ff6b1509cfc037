import PyProof.Rows.All
import Wide.All
import OpenK.AllK
import Wide.FinOn
import HandS.Base
import HandS.Call
import HandS.List
import HandS.Comp
import HandS.Ends
import HandS.Text
import HandS.Exc
import HandS.HeadHook1
import HandS.Lambda
import HandS.TupAny
import HandS.Wide
import HandS.WideBits
import HandS.Style
import HandS.Deep
import HandS.TupLe
import HandS.Dict
import HandS.Flow
import HandS.IsInst
import HandS.RaiseMore
import HandS.More
import PyProof.ReprRoads
import PyProof.CallFns
import HandS.Iter
import HandS.Star
import OpenK.KMore
import OpenK.KMeth
import KE.GoesEnum
import PyProof.EnumMake
import KE.KDictZip
import HandS.Zip
import OpenK.KOps
import HandS.FStr
import HandS.Property
import HandS.Small
import PyProof.Conv_bool
import HandS.ExcOwn
import HandS.ExcIs
import HandS.HeadHook2
import HandS.HeadHook3
import HandS.EndBits
import HandS.Head0
import HandS.Head1
import HandS.Head2
import HandS.Words
import PySem.Challenge.RW_crossedits_k22_bounds
set_option Elab.async false
set_option linter.all false
set_option maxRecDepth 100000
set_option maxHeartbeats 0
/-! DV: deep values over the hand layer. -/
namespace DV
open PySem PySem.Spec PyProof.Rows L2

/-! ### deep values -/
inductive D where
  | non | bl (b : Bool) | int (i : Int) | str (x : Str) | ty (n : String) | glo (x : Str)
  | tup (xs : List D) | lst (xs : List D)
  | ins (c : Str) (fs : List (Str × D))
  | dK (kvs : List (Key × D)) | dT (kvs : List (List Key × D))
  | ref (l : Nat)
  | clo (n : Nat) (caps : List D)

/-- what a changing object holds -/
inductive MO where
  | lst (xs : List D)
  | ins (c : Str) (fs : List (Str × D))
  | dK (kvs : List (Key × D)) | dT (kvs : List (List Key × D))
  | dead
def MO.live : MO → Bool
  | .dead => false
  | _ => true
abbrev Store := List MO

/-- a local name: nothing, a value, a caught error -/
inductive Sl where
  | un
  | v (d : D)
  | exn (c : Str) (fs : List (Str × D))
abbrev Env := List Sl

inductive R (α : Type) where
  | ok (a : α) (s : Store)
  | ex (c : Str) (fs : List (Str × D)) (s : Store)
  | stuck
def R.bind {α β : Type} : R α → (α → Store → R β) → R β
  | .ok a s, k => k a s
  | .ex c fs s, _ => .ex c fs s
  | .stuck, _ => .stuck
abbrev Sh := Env → Store → R D
abbrev Fn := List D → Store → R D
/-- what the defs are worth, by number -/
abbrev Gam := Nat → List Str → Fn

/-! ### how a deep value lies in the heap -/
/-- a lambda of the text: its parts, the names that it takes along -/
structure LamD where
  params : Arguments
  body : PySem.Expr
  scope : Scope
  qual : Str
  names : List Str
abbrev Lams := Nat → Option LamD
def LamO (f : Addr) (l : LamD) (cells : List (Str × Addr)) (pm : Value) (c : Addr) (ct : Value) : HO := .ext fun h => h.get? f = some (PySem.W.kla_obj "<lambda>" l.qual l.params l.body l.scope cells pm c ct)
/-- the cell at c holds v -/
def CellO (c : Addr) (v : V) : HO := .ext fun h => ∃ u, RelV v u ∧ h.IsCell c (some u)
def CellsAt (fz : Hp) : List Addr → List V → Prop
  | [], vs => vs = []
  | c :: cs, vs => ∃ v r, vs = v :: r ∧ fz c = some (CellO c v) ∧ CellsAt fz cs r
section
variable (K : PySem.W.Frag) (L : Lams) (fz : Hp) (ph : List Addr)
def DiK (a : Addr) (vs : List (Key × V)) : Prop := Rd fz a (.dK vs)
def DiT (a : Addr) (vs : List (List Key × V)) : Prop := Rd fz a (.dT vs)
mutual
def Rep : D → V → Prop
  | .non, u => u = .non
  | .bl b, u => u = .bl b
  | .int i, u => u = .int i
  | .str x, u => u = .str x
  | .ty n, u => u = .ty n
  | .glo x, u => u = .ref (He.ga K x)
  | .tup xs, u => ∃ a vs, u = .ref a ∧ SqT K fz a vs ∧ Reps xs vs
  | .lst xs, u => ∃ a vs, u = .ref a ∧ Rd fz a (.lst vs) ∧ Reps xs vs
  | .ins c fs, u => ∃ a dx vs, u = .ref a ∧ fz a = some (.ins (He.ga K c) dx vs) ∧ RepF fs vs
  | .dK kvs, u => ∃ a vs, u = .ref a ∧ DiK fz a vs ∧ RepK kvs vs
  | .dT kvs, u => ∃ a vs, u = .ref a ∧ DiT fz a vs ∧ RepT kvs vs
  | .ref l, u => ∃ a, u = .ref a ∧ ph[l]? = some a
  | .clo n caps, u => ∃ f l cells pm c ct vs, u = .ref f ∧ L n = some l ∧ fz f = some (LamO f l cells pm c ct) ∧ fz c = some (LamX.CodeO c l.qual) ∧ cells.map (·.1) = l.names ∧ CellsAt fz (cells.map (·.2)) vs ∧ Reps caps vs
def Reps : List D → List V → Prop
  | [], vs => vs = []
  | d :: ds, vs => ∃ v r, vs = v :: r ∧ Rep d v ∧ Reps ds r
def RepF : List (Str × D) → List (Str × V) → Prop
  | [], vs => vs = []
  | (f, d) :: ds, vs => ∃ v r, vs = (f, v) :: r ∧ Rep d v ∧ RepF ds r
def RepK : List (Key × D) → List (Key × V) → Prop
  | [], vs => vs = []
  | (f, d) :: ds, vs => ∃ v r, vs = (f, v) :: r ∧ Rep d v ∧ RepK ds r
def RepT : List (List Key × D) → List (List Key × V) → Prop
  | [], vs => vs = []
  | (f, d) :: ds, vs => ∃ v r, vs = (f, v) :: r ∧ Rep d v ∧ RepT ds r
end
end

/-- more is frozen, more may change -/
structure More (fz : Hp) (ph : List Addr) (fz' : Hp) (ph' : List Addr) : Prop where
  fz : ∀ a o, fz a = some o → fz' a = some o
  ph : ∃ t, ph' = ph ++ t
theorem More.refl (fz : Hp) (ph : List Addr) : More fz ph fz ph := ⟨fun _ _ h => h, [], by simp⟩
theorem More.trans {fz fz1 fz2 : Hp} {ph ph1 ph2 : List Addr} (a : More fz ph fz1 ph1) (b : More fz1 ph1 fz2 ph2) : More fz ph fz2 ph2 := by
  obtain ⟨t, e⟩ := a.ph
  obtain ⟨t', e'⟩ := b.ph
  exact ⟨fun x o h => b.fz x o (a.fz x o h), t ++ t', by rw [e', e, List.append_assoc]⟩
section
variable {K : PySem.W.Frag} {L : Lams} {fz fz' : Hp} {ph ph' : List Addr}
theorem rd_more {a : Addr} {u : HO} (h : ∀ a o, fz a = some o → fz' a = some o) (r : Rd fz a u) : Rd fz' a u := by
  rcases r with r | ⟨o, r⟩
  · exact .inl (h _ _ r)
  · exact .inr ⟨o, h _ _ r⟩
theorem sqL_more {a : Addr} {vs : List V} (h : ∀ a o, fz a = some o → fz' a = some o) (r : SqL K fz a vs) : SqL K fz' a vs := by
  rcases r with r | r
  · exact .inl (rd_more h r)
  · exact .inr r
theorem sqT_more {a : Addr} {vs : List V} (h : ∀ a o, fz a = some o → fz' a = some o) (r : SqT K fz a vs) : SqT K fz' a vs := by
  rcases r with r | r
  · exact .inl (rd_more h r)
  · exact .inr r
theorem cells_more (h : ∀ a o, fz a = some o → fz' a = some o) : ∀ (cs : List Addr) (vs : List V), CellsAt fz cs vs → CellsAt fz' cs vs
  | [], _, r => r
  | c :: cs, _, r => by
    obtain ⟨v, q, e, h1, h2⟩ := r
    exact ⟨v, q, e, h _ _ h1, cells_more h cs q h2⟩
mutual
theorem Rep.more (m : More fz ph fz' ph') : ∀ (d : D) (u : V), Rep K L fz ph d u → Rep K L fz' ph' d u
  | .non, _, h => by simp only [Rep] at h ⊢; exact h
  | .bl _, _, h => by simp only [Rep] at h ⊢; exact h
  | .int _, _, h => by simp only [Rep] at h ⊢; exact h
  | .str _, _, h => by simp only [Rep] at h ⊢; exact h
  | .ty _, _, h => by simp only [Rep] at h ⊢; exact h
  | .glo _, _, h => by simp only [Rep] at h ⊢; exact h
  | .tup xs, _, h => by
    simp only [Rep] at h ⊢
    obtain ⟨a, vs, e, s, r⟩ := h
    exact ⟨a, vs, e, sqT_more m.fz s, Reps.more m xs vs r⟩
  | .lst xs, _, h => by
    simp only [Rep] at h ⊢
    obtain ⟨a, vs, e, s, r⟩ := h
    exact ⟨a, vs, e, rd_more m.fz s, Reps.more m xs vs r⟩
  | .ins c fs, _, h => by
    simp only [Rep] at h ⊢
    obtain ⟨a, dx, vs, e, s, r⟩ := h
    exact ⟨a, dx, vs, e, m.fz _ _ s, RepF.more m fs vs r⟩
  | .dK kvs, _, h => by
    simp only [Rep] at h ⊢
    obtain ⟨a, vs, e, s, r⟩ := h
    exact ⟨a, vs, e, rd_more m.fz s, RepK.more m kvs vs r⟩
  | .dT kvs, _, h => by
    simp only [Rep] at h ⊢
    obtain ⟨a, vs, e, s, r⟩ := h
    exact ⟨a, vs, e, rd_more m.fz s, RepT.more m kvs vs r⟩
  | .ref l, _, h => by
    simp only [Rep] at h ⊢
    obtain ⟨a, e, s⟩ := h
    obtain ⟨t, et⟩ := m.ph
    refine ⟨a, e, ?_⟩
    rw [et, List.getElem?_append_left (List.getElem?_eq_some_iff.mp s).1]
    exact s
  | .clo n caps, _, h => by
    simp only [Rep] at h ⊢
    obtain ⟨f, l, cells, pm, c, ct, vs, e, hl, hf, hc, hn, hv, r⟩ := h
    exact ⟨f, l, cells, pm, c, ct, vs, e, hl, m.fz _ _ hf, m.fz _ _ hc, hn, cells_more m.fz _ _ hv, Reps.more m caps vs r⟩
theorem Reps.more (m : More fz ph fz' ph') : ∀ (ds : List D) (us : List V), Reps K L fz ph ds us → Reps K L fz' ph' ds us
  | [], _, h => by simp only [Reps] at h ⊢; exact h
  | d :: ds, _, h => by
    simp only [Reps] at h ⊢
    obtain ⟨v, r, e, h1, h2⟩ := h
    exact ⟨v, r, e, Rep.more m d v h1, Reps.more m ds r h2⟩
theorem RepF.more (m : More fz ph fz' ph') : ∀ (ds : List (Str × D)) (us : List (Str × V)), RepF K L fz ph ds us → RepF K L fz' ph' ds us
  | [], _, h => by simp only [RepF] at h ⊢; exact h
  | (f, d) :: ds, _, h => by
    simp only [RepF] at h ⊢
    obtain ⟨v, r, e, h1, h2⟩ := h
    exact ⟨v, r, e, Rep.more m d v h1, RepF.more m ds r h2⟩
theorem RepK.more (m : More fz ph fz' ph') : ∀ (ds : List (Key × D)) (us : List (Key × V)), RepK K L fz ph ds us → RepK K L fz' ph' ds us
  | [], _, h => by simp only [RepK] at h ⊢; exact h
  | (f, d) :: ds, _, h => by
    simp only [RepK] at h ⊢
    obtain ⟨v, r, e, h1, h2⟩ := h
    exact ⟨v, r, e, Rep.more m d v h1, RepK.more m ds r h2⟩
theorem RepT.more (m : More fz ph fz' ph') : ∀ (ds : List (List Key × D)) (us : List (List Key × V)), RepT K L fz ph ds us → RepT K L fz' ph' ds us
  | [], _, h => by simp only [RepT] at h ⊢; exact h
  | (f, d) :: ds, _, h => by
    simp only [RepT] at h ⊢
    obtain ⟨v, r, e, h1, h2⟩ := h
    exact ⟨v, r, e, Rep.more m d v h1, RepT.more m ds r h2⟩
end
end
end DV

namespace DV
open PySem PySem.Spec PyProof.Rows L2

/-- what is fixed through a law: the written part, the lambdas, the tables of code objects -/
structure Pa where
  K : PySem.W.Frag
  L : Lams
  tabs : List (Addr × Str)
  hx : Option (Addr × Str)

section
variable (T : Pa) (fz : Hp) (ph : List Addr)
/-- an object that changes -/
def MOk (H : Hp) (a : Addr) : MO → Prop
  | .lst xs => ∃ vs, H a = some (.lst vs) ∧ Reps T.K T.L fz ph xs vs
  | .ins c fs => ∃ dx vs, H a = some (.ins (He.ga T.K c) dx vs) ∧ RepF T.K T.L fz ph fs vs
  | .dead => ∃ o, fz a = some o
  | .dK kvs => ∃ vs, H a = some (.dK vs) ∧ RepK T.K T.L fz ph kvs vs
  | .dT kvs => ∃ vs, H a = some (.dT vs) ∧ RepT T.K T.L fz ph kvs vs
structure SOk (st : Store) (H : Hp) : Prop where
  sub : ∀ a o, fz a = some o → H a = some o
  len : st.length = ph.length
  mem : ∀ (i : Nat) (o : MO) (a : Addr), st[i]? = some o → ph[i]? = some a → MOk T fz ph H a o
  nd : ph.Nodup
  out : ∀ (i : Nat) (o : MO) (a : Addr), st[i]? = some o → ph[i]? = some a → o.live = true → fz a = none
  tb : LamX.Tabs T.tabs H
  nt : ∀ a ps, fz a ≠ some (.tbl ps)
def SlOk : Sl → Option V → Prop
  | .un, _ => True
  | .v d, u => ∃ x, u = some x ∧ Rep T.K T.L fz ph d x
  | .exn cn fs, u => match T.hx with
    | some p => u = some (.ref p.1) ∧ cn = p.2 ∧ fs = []
    | none => True
structure EOk (ρ : Env) (σ : L2.St) : Prop where
  len : ρ.length = σ.length
  sl : ∀ (i : Nat) (s : Sl) (u : Option V), ρ[i]? = some s → σ[i]? = some u → SlOk T fz ph s u
/-- an error: its fields in its own dict -/
def XOk (H : Hp) (c : Str) (fs : List (Str × D)) (cls : Value) (d : Option Addr) : Prop :=
  cls = .ref (He.ga T.K c) ∧ ((fs = [] ∧ d = none) ∨ (fs ≠ [] ∧ ∃ dd vs, d = some dd ∧ H dd = some (.xd vs) ∧ RepF T.K T.L fz ph fs vs))
end
/-- how far a step has come: what was known stays -/
structure Ext (fz : Hp) (ph : List Addr) (H : Hp) (fz' : Hp) (ph' : List Addr) (H' : Hp) : Prop where
  more : More fz ph fz' ph'
  fr : ∀ a o, H a = some o → a ∉ ph → (∀ ps, o ≠ .tbl ps) → H' a = some o
  dm : ∀ a, H a ≠ none → H' a ≠ none
  nf : ∀ a, fz' a ≠ none → fz a ≠ none ∨ H a = none ∨ a ∈ ph
  np : ∀ a, a ∈ ph' → a ∈ ph ∨ H a = none
theorem Ext.refl (fz : Hp) (ph : List Addr) (H : Hp) : Ext fz ph H fz ph H := ⟨.refl _ _, fun _ _ h _ _ => h, fun _ h => h, fun _ h => .inl h, fun _ h => .inl h⟩
theorem Ext.trans {fz fz1 fz2 H H1 H2 : Hp} {ph ph1 ph2 : List Addr} (a : Ext fz ph H fz1 ph1 H1) (b : Ext fz1 ph1 H1 fz2 ph2 H2) : Ext fz ph H fz2 ph2 H2 where
  more := a.more.trans b.more
  fr := fun x o h n t => by
    have h1 := a.fr x o h n t
    refine b.fr x o h1 (fun hm => ?_) t
    rcases a.np x hm with q | q
    · exact n q
    · rw [h] at q; cases q
  dm := fun x h => b.dm x (a.dm x h)
  nf := fun x h => by
    rcases b.nf x h with q | q | q
    · exact a.nf x q
    · refine .inr (.inl ?_)
      cases e : H x with
      | none => rfl
      | some o => exact absurd q (a.dm x (by rw [e]; simp))
    · rcases a.np x q with z | z
      · exact .inr (.inr z)
      · exact .inr (.inl z)
  np := fun x h => by
    rcases b.np x h with q | q
    · exact a.np x q
    · refine .inr ?_
      cases e : H x with
      | none => rfl
      | some o => exact absurd q (a.dm x (by rw [e]; simp))
section
variable {T : Pa} {fz fz' H H' : Hp} {ph ph' : List Addr} {st : Store} {ρ : Env} {σ : L2.St}
theorem SlOk.more (m : More fz ph fz' ph') {s : Sl} {u : Option V} (h : SlOk T fz ph s u) : SlOk T fz' ph' s u := by
  cases s with
  | un => trivial
  | exn c fs => exact h
  | v d =>
    obtain ⟨x, e1, r⟩ := h
    exact ⟨x, e1, Rep.more m d x r⟩
theorem EOk.more (h : EOk T fz ph ρ σ) (m : More fz ph fz' ph') : EOk T fz' ph' ρ σ := ⟨h.len, fun i s u h1 h2 => (h.sl i s u h1 h2).more m⟩
theorem EOk.ext (h : EOk T fz ph ρ σ) (e : Ext fz ph H fz' ph' H') : EOk T fz' ph' ρ σ := h.more e.more

/-! ### what is wanted behind an expression -/
variable (T)
/-- a result r, from a state: Q of its value's every lie, W of its error's -/
def RP (W : WX) (fz : Hp) (ph : List Addr) (σ : L2.St) (H : Hp) (Q : VK) (r : R D) : Prop :=
  match r with
  | .ok d st => ∀ fz' ph' H' u, Ext fz ph H fz' ph' H' → SOk T fz' ph' st H' → Rep T.K T.L fz' ph' d u → Q u H'
  | .ex c fs st => ∀ fz' ph' H' cls d, Ext fz ph H fz' ph' H' → SOk T fz' ph' st H' → XOk T fz' ph' H' c fs cls d → W cls d σ H'
  | .stuck => False
/-- some values are there; k is what is to come -/
def tK (W : WX) (k : List D → Sh) (xs : List V) : TE := fun σ H Q =>
  ∃ fz ph ρ st ds, SOk T fz ph st H ∧ EOk T fz ph ρ σ ∧ Reps T.K T.L fz ph ds xs ∧ RP T W fz ph σ H Q (k ds ρ st)
def tE (W : WX) (f : Sh) : TE := fun σ H Q => ∃ fz ph ρ st, SOk T fz ph st H ∧ EOk T fz ph ρ σ ∧ RP T W fz ph σ H Q (f ρ st)
variable {T}
theorem tE_tK {W : WX} {f : Sh} {Q : VK} (h : tE T W f σ H Q) : tK T W (fun _ => f) [] σ H Q := by
  obtain ⟨fz, ph, ρ, st, s, e, r⟩ := h
  exact ⟨fz, ph, ρ, st, [], s, e, by simp only [Reps], r⟩
theorem RP.ext {W : WX} {Q : VK} {r : R D} (h : RP T W fz ph σ H Q r) (e : Ext fz ph H fz' ph' H') : RP T W fz' ph' σ H' Q r := by
  cases r with
  | ok d st => exact fun f p H' u x s q => h f p H' u (e.trans x) s q
  | ex c fs st => exact fun f p H' cls d x s q => h f p H' cls d (e.trans x) s q
  | stuck => exact h
theorem reps_snoc {d : D} {x : V} : ∀ {ds : List D} {xs : List V}, Reps T.K T.L fz ph ds xs → Rep T.K T.L fz ph d x → Reps T.K T.L fz ph (ds ++ [d]) (xs ++ [x])
  | [], _, h, r => by
    simp only [Reps] at h
    subst h
    simp only [List.nil_append, Reps]
    exact ⟨x, [], rfl, r, rfl⟩
  | d' :: ds, _, h, r => by
    simp only [Reps] at h
    obtain ⟨v, q, e, h1, h2⟩ := h
    subst e
    simp only [List.cons_append, Reps]
    exact ⟨v, _, rfl, h1, reps_snoc h2 r⟩
/-- the next value -/
theorem tK_step {W : WX} {g : Sh} {k : List D → Sh} {xs : List V} {Q : VK} (h : tK T W (fun ds ρ st => (g ρ st).bind fun d st => k (ds ++ [d]) ρ st) xs σ H Q) :
    tE T W g σ H fun x H1 => tK T W k (xs ++ [x]) σ H1 Q := by
  obtain ⟨fz, ph, ρ, st, ds, s, e, r, h⟩ := h
  have h : RP T W fz ph σ H Q ((g ρ st).bind fun d st => k (ds ++ [d]) ρ st) := h
  refine ⟨fz, ph, ρ, st, s, e, ?_⟩
  cases q : g ρ st with
  | ok d st' =>
    rw [q] at h
    intro fz' ph' H' u x s' r'
    exact ⟨fz', ph', ρ, st', ds ++ [d], s', e.ext x, reps_snoc (ds := ds) (xs := xs) (Reps.more x.more ds xs r) r', RP.ext h x⟩
  | ex c fs st' => rw [q] at h; exact h
  | stuck => rw [q] at h; exact h
end

/-! ### rules by values -/
/-- a rule on two values keeps the reckoning p -/
def Keep2 (T : Pa) (r : R2) (p : D → D → Store → R D) : Prop :=
  ∀ (W : WX) (fz H : Hp) (ph : List Addr) (σ : L2.St) (st : Store) (d e : D) (x y : V) (Q : VK), SOk T fz ph st H → Rep T.K T.L fz ph d x → Rep T.K T.L fz ph e y → RP T W fz ph σ H Q (p d e st) → r x y H Q
def Keep1 (T : Pa) (r : V → Hp → VK → Prop) (p : D → Store → R D) : Prop :=
  ∀ (W : WX) (fz H : Hp) (ph : List Addr) (σ : L2.St) (st : Store) (d : D) (x : V) (Q : VK), SOk T fz ph st H → Rep T.K T.L fz ph d x → RP T W fz ph σ H Q (p d st) → r x H Q
def KeepN (T : Pa) (r : List V → Hp → VK → Prop) (p : List D → Store → R D) : Prop :=
  ∀ (W : WX) (fz H : Hp) (ph : List Addr) (σ : L2.St) (st : Store) (ds : List D) (xs : List V) (Q : VK), SOk T fz ph st H → Reps T.K T.L fz ph ds xs → RP T W fz ph σ H Q (p ds st) → r xs H Q
end DV

namespace DV
open PySem PySem.Spec PyProof.Rows L2

section
variable {T : Pa} {fz H : Hp} {ph : List Addr} {st : Store} {σ : L2.St} {W : WX} {Q : VK}
theorem SOk.at_some (s : SOk T fz ph st H) {a : Addr} (ha : a ∈ ph) : ∃ o, H a = some o := by
  obtain ⟨i, hi, e⟩ := List.mem_iff_getElem.mp ha
  have hl := s.len
  have h := s.mem i st[i] a (List.getElem?_eq_getElem (by omega)) (by rw [List.getElem?_eq_getElem hi, e])
  cases q : st[i] with
  | lst xs => rw [q] at h; obtain ⟨vs, h, _⟩ := h; exact ⟨_, h⟩
  | ins c fs => rw [q] at h; obtain ⟨dx, vs, h, _⟩ := h; exact ⟨_, h⟩
  | dK kvs => rw [q] at h; obtain ⟨vs, h, _⟩ := h; exact ⟨_, h⟩
  | dT kvs => rw [q] at h; obtain ⟨vs, h, _⟩ := h; exact ⟨_, h⟩
  | dead => rw [q] at h; obtain ⟨o, h⟩ := h; exact ⟨_, s.sub _ _ h⟩
theorem MOk.more {fz' H' : Hp} {ph' : List Addr} {a : Addr} {o : MO} (m : More fz ph fz' ph') (hH : ∀ u, H a = some u → H' a = some u) (h : MOk T fz ph H a o) : MOk T fz' ph' H' a o := by
  cases o with
  | lst xs => obtain ⟨vs, h, r⟩ := h; exact ⟨vs, hH _ h, Reps.more m xs vs r⟩
  | ins c fs => obtain ⟨dx, vs, h, r⟩ := h; exact ⟨dx, vs, hH _ h, RepF.more m fs vs r⟩
  | dK kvs => obtain ⟨vs, h, r⟩ := h; exact ⟨vs, hH _ h, RepK.more m kvs vs r⟩
  | dT kvs => obtain ⟨vs, h, r⟩ := h; exact ⟨vs, hH _ h, RepT.more m kvs vs r⟩
  | dead => obtain ⟨u, h⟩ := h; exact ⟨u, m.fz _ _ h⟩
/-- a new thing is laid, and is frozen -/
theorem SOk.laid (s : SOk T fz ph st H) {p : Addr} {o : HO} (hp : H p = none) (ho : ∀ ps, o ≠ .tbl ps) : SOk T (upd fz p o) ph st (upd H p o) where
  sub := fun a u h => by
    by_cases e : a = p
    · subst e; rw [upd_same] at h ⊢; exact h
    · rw [upd_ne e] at h ⊢; exact s.sub a u h
  len := s.len
  mem := fun i m a h1 h2 => by
    refine MOk.more ⟨fun a u h => ?_, [], by simp⟩ (fun u hu => ?_) (s.mem i m a h1 h2)
    · rw [upd_ne (ne_of_none (s.sub a u h) hp)]; exact h
    · rw [upd_ne (ne_of_none hu hp)]; exact hu
  nd := s.nd
  out := fun i m a h1 h2 h3 => by
    obtain ⟨u, hu⟩ := s.at_some (List.mem_of_getElem? h2)
    rw [upd_ne (ne_of_none hu hp)]
    exact s.out i m a h1 h2 h3
  tb := s.tb.ext fun a u h => by rw [upd_ne (ne_of_none h hp)]; exact h
  nt := fun a ps h => by
    by_cases e : a = p
    · subst e; rw [upd_same] at h; exact ho ps (Option.some.inj h)
    · rw [upd_ne e] at h; exact s.nt a ps h
theorem Ext.laid (s : SOk T fz ph st H) {p : Addr} {o : HO} (hp : H p = none) : Ext fz ph H (upd fz p o) ph (upd H p o) where
  more := ⟨fun a u h => by rw [upd_ne (ne_of_none (s.sub a u h) hp)]; exact h, [], by simp⟩
  fr := fun a u h _ _ => by rw [upd_ne (ne_of_none h hp)]; exact h
  dm := fun a h => by
    by_cases e : a = p
    · subst e; rw [upd_same]; simp
    · rw [upd_ne e]; exact h
  nf := fun a h => by
    by_cases e : a = p
    · subst e; exact .inr (.inl hp)
    · rw [upd_ne e] at h; exact .inl h
  np := fun a h => .inl h
/-- a value that needs nothing of the heap -/
theorem RP.here {d : D} {u : V} (h : RP T W fz ph σ H Q (.ok d st)) (s : SOk T fz ph st H) (r : Rep T.K T.L fz ph d u) : Q u H := h fz ph H u (.refl _ _ _) s r
theorem RP.new {d : D} {p : Addr} {o : HO} (h : RP T W fz ph σ H Q (.ok d st)) (s : SOk T fz ph st H) (hp : H p = none) (ho : ∀ ps, o ≠ .tbl ps) (r : Rep T.K T.L (upd fz p o) ph d (.ref p)) : Q (.ref p) (upd H p o) :=
  h _ ph _ _ (Ext.laid s hp) (s.laid hp ho) r
theorem More.laid (s : SOk T fz ph st H) {p : Addr} {o : HO} (hp : H p = none) : More fz ph (upd fz p o) ph := (Ext.laid s hp).more
theorem Reps.length : ∀ {ds : List D} {us : List V}, Reps T.K T.L fz ph ds us → ds.length = us.length
  | [], _, h => by simp only [Reps] at h; subst h; rfl
  | d :: ds, _, h => by
    simp only [Reps] at h
    obtain ⟨v, r, e, _, h2⟩ := h
    subst e
    simp [Reps.length h2]
theorem Reps.append : ∀ {ds : List D} {us : List V} {es : List D} {vs : List V}, Reps T.K T.L fz ph ds us → Reps T.K T.L fz ph es vs → Reps T.K T.L fz ph (ds ++ es) (us ++ vs)
  | [], _, _, _, h, r => by simp only [Reps] at h; subst h; exact r
  | d :: ds, _, es, vs, h, r => by
    simp only [Reps] at h
    obtain ⟨v, q, e, h1, h2⟩ := h
    subst e
    simp only [List.cons_append, Reps]
    exact ⟨v, _, rfl, h1, Reps.append h2 r⟩
theorem Reps.get : ∀ {ds : List D} {us : List V} {i : Nat} {d : D}, Reps T.K T.L fz ph ds us → ds[i]? = some d → ∃ u, us[i]? = some u ∧ Rep T.K T.L fz ph d u
  | [], _, _, _, _, e => by simp at e
  | d' :: ds, _, 0, d, h, e => by
    simp only [Reps] at h
    obtain ⟨v, q, e', h1, h2⟩ := h
    subst e'
    simp at e
    subst e
    exact ⟨v, rfl, h1⟩
  | d' :: ds, _, i + 1, d, h, e => by
    simp only [Reps] at h
    obtain ⟨v, q, e', h1, h2⟩ := h
    subst e'
    obtain ⟨u, h3, h4⟩ := Reps.get (i := i) h2 (by simpa using e)
    exact ⟨u, by simpa using h3, h4⟩
theorem Reps.set : ∀ {ds : List D} {us : List V} {d : D} {u : V} (i : Nat), Reps T.K T.L fz ph ds us → Rep T.K T.L fz ph d u → Reps T.K T.L fz ph (ds.set i d) (us.set i u)
  | [], _, _, _, _, h, _ => by simp only [Reps] at h; subst h; simp only [List.set_nil, Reps]
  | d' :: ds, _, d, u, 0, h, r => by
    simp only [Reps] at h
    obtain ⟨v, q, e', h1, h2⟩ := h
    subst e'
    simp only [List.set_cons_zero, Reps]
    exact ⟨u, q, rfl, r, h2⟩
  | d' :: ds, _, d, u, i + 1, h, r => by
    simp only [Reps] at h
    obtain ⟨v, q, e', h1, h2⟩ := h
    subst e'
    simp only [List.set_cons_succ, Reps]
    exact ⟨v, _, rfl, h1, Reps.set i h2 r⟩
theorem Reps.take : ∀ {ds : List D} {us : List V} (n : Nat), Reps T.K T.L fz ph ds us → Reps T.K T.L fz ph (ds.take n) (us.take n)
  | _, _, 0, _ => by simp only [List.take_zero, Reps]
  | [], _, n + 1, h => by simp only [Reps] at h; subst h; simp only [List.take_nil, Reps]
  | d' :: ds, _, n + 1, h => by
    simp only [Reps] at h
    obtain ⟨v, q, e', h1, h2⟩ := h
    subst e'
    simp only [List.take_succ_cons, Reps]
    exact ⟨v, _, rfl, h1, Reps.take n h2⟩
theorem Reps.drop : ∀ {ds : List D} {us : List V} (n : Nat), Reps T.K T.L fz ph ds us → Reps T.K T.L fz ph (ds.drop n) (us.drop n)
  | _, _, 0, h => by simpa using h
  | [], _, n + 1, h => by simp only [Reps] at h; subst h; simp only [List.drop_nil, Reps]
  | d' :: ds, _, n + 1, h => by
    simp only [Reps] at h
    obtain ⟨v, q, e', h1, h2⟩ := h
    subst e'
    simp only [List.drop_succ_cons]
    exact Reps.drop n h2
theorem Reps.flat {ds : List D} {us : List V} (h : Reps T.K T.L fz ph ds us) : ∀ n : Nat, Reps T.K T.L fz ph (List.replicate n ds).flatten (List.replicate n us).flatten
  | 0 => by simp only [List.replicate_zero, List.flatten_nil, Reps]
  | n + 1 => by
    rw [List.replicate_succ, List.replicate_succ, List.flatten_cons, List.flatten_cons]
    exact h.append (Reps.flat h n)
theorem Reps.nil_iff {ds : List D} {us : List V} (h : Reps T.K T.L fz ph ds us) : ds = [] ↔ us = [] := by
  have := h.length
  cases ds <;> cases us <;> simp_all
theorem reps1 {d : D} {us : List V} (h : Reps T.K T.L fz ph [d] us) : ∃ u, us = [u] ∧ Rep T.K T.L fz ph d u := by
  simp only [Reps] at h
  obtain ⟨v, r, e, h1, h2⟩ := h
  subst h2
  exact ⟨v, e, h1⟩
theorem reps2 {d e : D} {us : List V} (h : Reps T.K T.L fz ph [d, e] us) : ∃ u v, us = [u, v] ∧ Rep T.K T.L fz ph d u ∧ Rep T.K T.L fz ph e v := by
  simp only [Reps] at h
  obtain ⟨v, r, e, h1, w, r2, e2, h2, e3⟩ := h
  subst e3 e2
  exact ⟨v, w, e, h1, h2⟩
theorem reps0 {us : List V} (h : Reps T.K T.L fz ph [] us) : us = [] := by
  simpa only [Reps] using h
theorem rep_tup {xs : List D} {u : V} (h : Rep T.K T.L fz ph (.tup xs) u) : ∃ a vs, u = .ref a ∧ SqT T.K fz a vs ∧ Reps T.K T.L fz ph xs vs := by
  simpa only [Rep] using h
theorem rep_lst {xs : List D} {u : V} (h : Rep T.K T.L fz ph (.lst xs) u) : ∃ a vs, u = .ref a ∧ Rd fz a (.lst vs) ∧ Reps T.K T.L fz ph xs vs := by
  simpa only [Rep] using h
theorem rep_int {i : Int} {u : V} (h : Rep T.K T.L fz ph (.int i) u) : u = .int i := by simpa only [Rep] using h
theorem rep_str {i : Str} {u : V} (h : Rep T.K T.L fz ph (.str i) u) : u = .str i := by simpa only [Rep] using h
theorem rep_bl {i : Bool} {u : V} (h : Rep T.K T.L fz ph (.bl i) u) : u = .bl i := by simpa only [Rep] using h
theorem rep_non {u : V} (h : Rep T.K T.L fz ph .non u) : u = .non := by simpa only [Rep] using h
theorem SOk.sqT (s : SOk T fz ph st H) {a : Addr} {vs : List V} (h : SqT T.K fz a vs) : SqT T.K H a vs := sqT_more s.sub h
theorem SOk.rd (s : SOk T fz ph st H) {a : Addr} {u : HO} (h : Rd fz a u) : Rd H a u := rd_more s.sub h
theorem new_tup (s : SOk T fz ph st H) {p : Addr} {vs : List V} {ds : List D} (hp : H p = none) (r : Reps T.K T.L fz ph ds vs) : Rep T.K T.L (upd fz p (.tup vs)) ph (.tup ds) (.ref p) := by
  simp only [Rep]
  exact ⟨p, vs, rfl, SqT.of upd_same, Reps.more (More.laid s hp) ds vs r⟩
theorem new_lst (s : SOk T fz ph st H) {p : Addr} {vs : List V} {ds : List D} (hp : H p = none) (r : Reps T.K T.L fz ph ds vs) : Rep T.K T.L (upd fz p (.lst vs)) ph (.lst ds) (.ref p) := by
  simp only [Rep]
  exact ⟨p, vs, rfl, .inl upd_same, Reps.more (More.laid s hp) ds vs r⟩
end

/-! ### operators -/
def binP (op : Operator) (d e : D) (st : Store) : R D := match op, d, e with
  | .Add, .int i, .int j => .ok (.int (i + j)) st
  | .Add, .str a, .str b => if a.length + b.length ≤ sizeLine then .ok (.str (a ++ b)) st else .stuck
  | .Add, .tup a, .tup b => if a.length + b.length ≤ sizeLine then .ok (.tup (a ++ b)) st else .stuck
  | .Add, .lst a, .lst b => if a.length + b.length ≤ sizeLine then .ok (.lst (a ++ b)) st else .stuck
  | .Add, .int i, .bl k => .ok (.int (i + b2i k)) st
  | .Sub, .int i, .int j => .ok (.int (i - j)) st
  | .Mult, .int i, .int j => if i.natAbs.log2 + j.natAbs.log2 < 1000000 then .ok (.int (i * j)) st else .stuck
  | .Mult, .lst xs, .int k => if -(2 ^ 63) ≤ k ∧ k < 2 ^ 63 ∧ xs.length * k.toNat ≤ sizeLine then .ok (.lst (List.replicate k.toNat xs).flatten) st else .stuck
  | .FloorDiv, .int i, .int j => if 0 < j ∧ j.natAbs.log2 < 9000 then .ok (.int (i / j)) st else .stuck
  | .Mod, .int i, .int j => if 0 < j then .ok (.int (i % j)) st else .stuck
  | .Pow, .int i, .int j => if 0 ≤ j ∧ j ≤ 1000000 ∧ i.natAbs < 2 ^ 64 then .ok (.int (i ^ j.toNat)) st else .stuck
  | _, _, _ => .stuck

section
variable {X : Cx}
def rCatR : R2 := fun x y H Q => ∃ l b xs zs, x = .ref l ∧ y = .ref b ∧ Rd H l (.lst xs) ∧ Rd H b (.lst zs) ∧ xs.length + zs.length ≤ sizeLine ∧ ∀ p, H p = none → Q (.ref p) (upd H p (.lst (xs ++ zs)))
theorem op_catR : OpR X (binaryOp .Add) rCatR := by
  rintro pins s σ H x y v u Q I rx ry ⟨l, b, xs, zs, rfl, rfl, hH, hB, hz, q⟩
  cases rx
  cases ry
  obtain ⟨z, its, n, r, e⟩ := hH.ok I.hok
  obtain ⟨z2, its2, n2, r2, e2⟩ := hB.ok I.hok
  have l1 := r.length
  have l2 := r2.length
  refine PySem.P.add_list e e2 ?_ (by rw [List.size_toArray, List.size_toArray]; omega)
  have ea : its.toArray ++ its2.toArray = (its ++ its2).toArray := by simp
  rw [ea]
  refine ⟨.ref s.heap.objs.size, _, I.laid (t' := s.toks) (o := .lst (xs ++ zs)) (fun b ob q => Heap.get?_push_of_some _ q) (Nat.le_refl _) ?_, rfl, q _ (I.hok.fresh (Nat.le_refl _))⟩
  exact ⟨by rw [List.length_append]; exact hz, _, 0, r.append r2, Heap.get?_push_size _ rfl⟩
def rRepR : R2 := fun x y H Q => ∃ l k xs, x = .ref l ∧ y = .int k ∧ (H l = some (.lst xs)) ∧ -(2 ^ 63) ≤ k ∧ k < 2 ^ 63 ∧ xs.length * k.toNat ≤ sizeLine ∧
  ∀ p, H p = none → Q (.ref p) (upd H p (.lst (List.replicate k.toNat xs).flatten))
/-- any + -/
def rAddA (K : PySem.W.Frag) : R2 := fun x y H Q => rI0 (fun i j => .int (i + j)) x y H Q ∨ (∃ i j, x = .str i ∧ y = .str j ∧ i.length + j.length ≤ sizeLine ∧ Q (.str (i ++ j)) H) ∨ rCatA K x y H Q ∨ rCatR x y H Q ∨
  (∃ i k, x = .int i ∧ y = .bl k ∧ Q (.int (i + b2i k)) H)
theorem op_addA : OpR X (binaryOp .Add) (rAddA X.K) := op_add.or (op_add_str.or (op_catA.or (op_catR.or op_add_ib)))
theorem keep_add (T : Pa) : Keep2 T (rAddA T.K) (binP .Add) := by
  intro W fz H ph σ st d e x y Q s rx ry h
  cases d <;> cases e <;> try exact absurd h id
  case int.int i j =>
    rw [rep_int rx, rep_int ry]
    exact .inl ⟨i, j, rfl, rfl, h.here s (by simp only [Rep])⟩
  case int.bl i k =>
    rw [rep_int rx, rep_bl ry]
    exact .inr (.inr (.inr (.inr ⟨i, k, rfl, rfl, h.here s (by simp only [Rep])⟩)))
  case str.str i j =>
    rw [rep_str rx, rep_str ry]
    have h : RP T W fz ph σ H Q (if i.length + j.length ≤ sizeLine then .ok (.str (i ++ j)) st else .stuck) := h
    by_cases c : i.length + j.length ≤ sizeLine
    · rw [if_pos c] at h
      exact .inr (.inl ⟨i, j, rfl, rfl, c, h.here s (by simp only [Rep])⟩)
    · rw [if_neg c] at h; exact h.elim
  case tup.tup xs ys =>
    have h : RP T W fz ph σ H Q (if xs.length + ys.length ≤ sizeLine then .ok (.tup (xs ++ ys)) st else .stuck) := h
    by_cases c : xs.length + ys.length ≤ sizeLine
    · rw [if_pos c] at h
      obtain ⟨a, vs, e1, ha, ra⟩ := rep_tup rx
      obtain ⟨b, ws, e2, hb, rb⟩ := rep_tup ry
      subst e1 e2
      refine .inr (.inr (.inl ⟨a, b, vs, ws, rfl, rfl, s.sqT ha, s.sqT hb, by rw [← ra.length, ← rb.length]; exact c, fun z => ?_, fun z1 z2 => ?_, fun z1 z2 p hp => ?_⟩))
      · have z' := ra.nil_iff.mpr z
        subst z'
        exact h.here s (by rw [List.nil_append]; exact ry)
      · have z' := rb.nil_iff.mpr z2
        subst z'
        exact h.here s (by rw [List.append_nil]; exact rx)
      · exact h.new s hp (fun ps q => by cases q) (new_tup s hp (ra.append rb))
    · rw [if_neg c] at h; exact h.elim
  case lst.lst xs ys =>
    have h : RP T W fz ph σ H Q (if xs.length + ys.length ≤ sizeLine then .ok (.lst (xs ++ ys)) st else .stuck) := h
    by_cases c : xs.length + ys.length ≤ sizeLine
    · rw [if_pos c] at h
      obtain ⟨a, vs, e1, ha, ra⟩ := rep_lst rx
      obtain ⟨b, ws, e2, hb, rb⟩ := rep_lst ry
      subst e1 e2
      exact .inr (.inr (.inr (.inl ⟨a, b, vs, ws, rfl, rfl, s.rd ha, s.rd hb, by rw [← ra.length, ← rb.length]; exact c, fun p hp => h.new s hp (fun ps q => by cases q) (new_lst s hp (ra.append rb))⟩)))
    · rw [if_neg c] at h; exact h.elim
end
end DV

namespace DV
open PySem PySem.Spec PyProof.Rows L2
section
variable {X : Cx}
theorem vals_rep {xs : List V} {us : List Value} (h : Vals xs us) : ∀ n : Nat, Vals (List.replicate n xs).flatten (List.replicate n us).flatten
  | 0 => by simp; exact .nil
  | n + 1 => by rw [List.replicate_succ, List.replicate_succ, List.flatten_cons, List.flatten_cons]; exact h.append (vals_rep h n)
def rRepS : R2 := fun x y H Q => ∃ l k xs, x = .ref l ∧ y = .int k ∧ Rd H l (.lst xs) ∧ -(2 ^ 63) ≤ k ∧ k < 2 ^ 63 ∧ xs.length * k.toNat ≤ sizeLine ∧
  ∀ p, H p = none → Q (.ref p) (upd H p (.lst (List.replicate k.toNat xs).flatten))
theorem op_repS : OpR X (binaryOp .Mult) rRepS := by
  rintro pins s σ H x y v u Q I rx ry ⟨l, k, xs, rfl, rfl, hH, h1, h2, hz, q⟩
  cases rx
  obtain ⟨t, rfl⟩ := ry
  obtain ⟨z, its, n, r, e⟩ := hH.ok I.hok
  have hl := r.length
  have hsz : its.toArray.size * k.toNat ≤ sizeLine := by rw [List.size_toArray, ← hl]; exact hz
  have c1 : ¬ its.toArray.size * k.toNat > (2 ^ 63 - 1) / 8 := by
    have : (sizeLine : Nat) ≤ (2 ^ 63 - 1) / 8 := by decide
    omega
  have c2 : ¬ (!Builtin.List.listFitsIndex k) = true := by rw [fitsIndex_both h1 h2]; exact Bool.false_ne_true
  have c3 : ¬ Builtin.List.listTooLong (its.toArray.size * k.toNat) = true := by rw [notLongL hsz]; exact Bool.false_ne_true
  have c4 : List.foldl (fun x1 x2 => x1 ++ x2) #[] (List.replicate (if its.toArray.isEmpty = true then 0 else k.toNat) its.toArray) = (List.replicate k.toNat its).flatten.toArray := by
    have f0 : ∀ m : Nat, List.foldl (fun x1 x2 => x1 ++ x2) #[] (List.replicate m its.toArray) = (List.replicate m its).flatten.toArray := fun m => by
      have z := foldl_rep its m []
      rwa [List.nil_append] at z
    rw [f0]
    cases its with
    | nil => simp
    | cons a r' => rw [if_neg (by simp)]
  refine wpAny_binaryOp_repeat_ref (T := "list") (U := "int") (by decide) ⟨_, e, rfl⟩ (fun s' => typeIs_int s' k t) noFill_list_mul F.fills_int_mul F.slot_int_rmul repeat_list F.slot_int_index.lookup
    (call_meets F.slot_int_rmul (typeIs_int s k t) F.entry_int_rmul (F.args_int_rmul_2 _ _) (int___rmul___int_list k t l its.toArray n)
      ⟨e, rfl, ⟨_, e, rfl⟩, call_meets F.slot_list_mul ⟨_, e, rfl⟩ F.entry_list_mul (F.args_list_mul_2 _ _) (AutoListH.list___mul___list_int_3 l its.toArray n k t c2 c1 c3) ⟨e, ?_⟩⟩)
  rw [c4]
  refine ⟨.ref s.heap.objs.size, _, I.laid (t' := s.toks) (o := .lst (List.replicate k.toNat xs).flatten) (fun b ob q => Heap.get?_push_of_some _ q) (Nat.le_refl _) ?_, rfl, q _ (I.hok.fresh (Nat.le_refl _))⟩
  exact ⟨by rw [PyProof.Rows.lm_len_rep_flat, Nat.mul_comm]; exact hz, _, 0, vals_rep r k.toNat, Heap.get?_push_size _ rfl⟩
def rMulA : R2 := fun x y H Q => rI CMulW (fun i j => .int (i * j)) x y H Q ∨ rRepS x y H Q
theorem op_mulA : OpR X (binaryOp .Mult) rMulA := op_mulW.or op_repS
theorem keep_mul (T : Pa) : Keep2 T rMulA (binP .Mult) := by
  intro W fz H ph σ st d e x y Q s rx ry h
  cases d <;> cases e <;> try exact absurd h id
  case int.int i j =>
    rw [rep_int rx, rep_int ry]
    have h : RP T W fz ph σ H Q (if i.natAbs.log2 + j.natAbs.log2 < 1000000 then .ok (.int (i * j)) st else .stuck) := h
    by_cases c : i.natAbs.log2 + j.natAbs.log2 < 1000000
    · rw [if_pos c] at h
      exact .inl ⟨i, j, rfl, rfl, c, h.here s (by simp only [Rep])⟩
    · rw [if_neg c] at h; exact h.elim
  case lst.int xs k =>
    have h : RP T W fz ph σ H Q (if -(2 ^ 63) ≤ k ∧ k < 2 ^ 63 ∧ xs.length * k.toNat ≤ sizeLine then .ok (.lst (List.replicate k.toNat xs).flatten) st else .stuck) := h
    by_cases c : -(2 ^ 63) ≤ k ∧ k < 2 ^ 63 ∧ xs.length * k.toNat ≤ sizeLine
    · rw [if_pos c] at h
      obtain ⟨a, vs, e1, ha, ra⟩ := rep_lst rx
      rw [rep_int ry, e1]
      exact .inr ⟨a, k, vs, rfl, rfl, s.rd ha, c.1, c.2.1, by rw [← ra.length]; exact c.2.2, fun p hp => h.new s hp (fun ps q => by cases q) (new_lst s hp (ra.flat _))⟩
    · rw [if_neg c] at h; exact h.elim
/-- two ints in, one out, under a test -/
theorem keep_int {p : D → D → Store → R D} {C : Int → Int → Prop} [∀ i j, Decidable (C i j)] {g : Int → Int → Int} (T : Pa)
    (hp : ∀ d e st, p d e st = match d, e with | .int i, .int j => (if C i j then .ok (.int (g i j)) st else .stuck) | _, _ => .stuck) : Keep2 T (rI C fun i j => .int (g i j)) p := by
  intro W fz H ph σ st d e x y Q s rx ry h
  rw [hp] at h
  cases d <;> cases e <;> try exact absurd h id
  rename_i i j
  rw [rep_int rx, rep_int ry]
  have h : RP T W fz ph σ H Q (if C i j then .ok (.int (g i j)) st else .stuck) := h
  by_cases c : C i j
  · rw [if_pos c] at h
    exact ⟨i, j, rfl, rfl, c, h.here s (by simp only [Rep])⟩
  · rw [if_neg c] at h; exact h.elim
theorem keep_sub (T : Pa) : Keep2 T (rI0 fun i j => .int (i - j)) (binP .Sub) := by
  intro W fz H ph σ st d e x y Q s rx ry h
  cases d <;> cases e <;> try exact absurd h id
  rw [rep_int rx, rep_int ry]
  exact ⟨_, _, rfl, rfl, h.here s (by simp only [Rep])⟩
instance (i j : Int) : Decidable (CDivW i j) := by unfold CDivW; infer_instance
instance (i j : Int) : Decidable (CPow i j) := by unfold CPow; infer_instance
theorem keep_fdiv (T : Pa) : Keep2 T (rI CDivW fun i j => .int (i / j)) (binP .FloorDiv) := keep_int T fun d e st => by cases d <;> cases e <;> rfl
theorem keep_mod (T : Pa) : Keep2 T (rI (fun _ j => 0 < j) fun i j => .int (i % j)) (binP .Mod) := keep_int T fun d e st => by cases d <;> cases e <;> rfl
theorem keep_pow (T : Pa) : Keep2 T (rI CPow fun i j => .int (i ^ j.toNat)) (binP .Pow) := keep_int T fun d e st => by cases d <;> cases e <;> rfl
/-- every operator, by one rule -/
def rBin (K : PySem.W.Frag) : Operator → R2
  | .Add => rAddA K
  | .Sub => rI0 fun i j => .int (i - j)
  | .Mult => rMulA
  | .FloorDiv => rI CDivW fun i j => .int (i / j)
  | .Mod => rI (fun _ j => 0 < j) fun i j => .int (i % j)
  | .Pow => rI CPow fun i j => .int (i ^ j.toNat)
  | _ => fun _ _ _ _ => False
theorem op_bin (op : Operator) : OpR X (binaryOp op) (rBin X.K op) := by
  cases op with
  | Add => exact op_addA
  | Sub => exact op_sub
  | Mult => exact op_mulA
  | FloorDiv => exact op_fdivW
  | Mod => exact op_mod
  | Pow => exact op_pow
  | _ => exact fun _ _ _ _ _ _ _ _ _ _ _ _ h => h.elim
theorem keep_bin (T : Pa) (op : Operator) : Keep2 T (rBin T.K op) (binP op) := by
  cases op with
  | Add => exact keep_add T
  | Sub => exact keep_sub T
  | Mult => exact keep_mul T
  | FloorDiv => exact keep_fdiv T
  | Mod => exact keep_mod T
  | Pow => exact keep_pow T
  | _ => intro W fz H ph σ st d e x y Q s rx ry h; cases d <;> cases e <;> exact absurd h id
/-! ### one operand -/
def unP (op : UnaryOp) (d : D) (st : Store) : R D := match op, d with
  | .USub, .int i => .ok (.int (-i)) st
  | _, _ => .stuck
def rUn : UnaryOp → V → Hp → VK → Prop
  | .USub => rU fun i => .int (-i)
  | _ => fun _ _ _ => False
theorem op_un (op : UnaryOp) : UnR X (unaryOp op) (rUn op) := by
  cases op with
  | USub => exact un_neg
  | _ => exact fun _ _ _ _ _ _ _ _ _ h => h.elim
theorem keep_un (T : Pa) (op : UnaryOp) : Keep1 T (rUn op) (unP op) := by
  intro W fz H ph σ st d x Q s rx h
  cases op <;> cases d <;> try exact absurd h id
  rw [rep_int rx]
  exact ⟨_, rfl, h.here s (by simp only [Rep])⟩
end
/-! ### data -/
mutual
def D.py : D → Option PyData
  | .non => some .none
  | .bl b => some (.bool b)
  | .int i => some (.int i)
  | .str x => some (.str x)
  | .tup xs => (D.pys xs).map .tuple
  | .lst xs => (D.pys xs).map .list
  | _ => none
def D.pys : List D → Option (List PyData)
  | [] => some []
  | d :: ds => match D.py d, D.pys ds with
    | some a, some b => some (a :: b)
    | _, _ => none
end
section
variable {T : Pa} {fz H : Hp} {ph : List Addr} {st : Store} {σ : L2.St} {W : WX} {Q : VK}
mutual
theorem rep_dp : ∀ (d : D) (u : V) (p : PyData), Rep T.K T.L fz ph d u → d.py = some p → Dp T.K fz u p
  | .non, _, _, h, e => by rw [rep_non h]; simp only [D.py, Option.some.injEq] at e; subst e; exact .non
  | .bl b, _, _, h, e => by rw [rep_bl h]; simp only [D.py, Option.some.injEq] at e; subst e; exact .bl b
  | .int b, _, _, h, e => by rw [rep_int h]; simp only [D.py, Option.some.injEq] at e; subst e; exact .int b
  | .str b, _, _, h, e => by rw [rep_str h]; simp only [D.py, Option.some.injEq] at e; subst e; exact .str b
  | .tup xs, _, _, h, e => by
    obtain ⟨a, vs, e1, s, r⟩ := rep_tup h
    simp only [D.py, Option.map_eq_some_iff] at e
    obtain ⟨ps, e2, e3⟩ := e
    subst e1 e3
    exact .tup s (reps_dp xs vs ps r e2)
  | .lst xs, _, _, h, e => by
    obtain ⟨a, vs, e1, s, r⟩ := rep_lst h
    simp only [D.py, Option.map_eq_some_iff] at e
    obtain ⟨ps, e2, e3⟩ := e
    subst e1 e3
    exact .lst (.inl s) (reps_dp xs vs ps r e2)
  | .ty _, _, _, _, e => by simp [D.py] at e
  | .glo _, _, _, _, e => by simp [D.py] at e
  | .ins _ _, _, _, _, e => by simp [D.py] at e
  | .dK _, _, _, _, e => by simp [D.py] at e
  | .dT _, _, _, _, e => by simp [D.py] at e
  | .ref _, _, _, _, e => by simp [D.py] at e
  | .clo _ _, _, _, _, e => by simp [D.py] at e
theorem reps_dp : ∀ (ds : List D) (us : List V) (ps : List PyData), Reps T.K T.L fz ph ds us → D.pys ds = some ps → DpAll T.K fz us ps
  | [], _, _, h, e => by
    rw [reps0 h]
    simp only [D.pys, Option.some.injEq] at e
    subst e
    exact .nil
  | d :: ds, _, _, h, e => by
    simp only [Reps] at h
    obtain ⟨v, r, e1, h1, h2⟩ := h
    subst e1
    simp only [D.pys] at e
    cases q : d.py with
    | none => rw [q] at e; cases e
    | some a =>
      cases q2 : D.pys ds with
      | none => rw [q, q2] at e; cases e
      | some b =>
        rw [q, q2] at e
        simp only [Option.some.injEq] at e
        subst e
        exact .cons (rep_dp d v a h1 q) (reps_dp ds r b h2 q2)
end
mutual
theorem dp_mono {K : PySem.W.Frag} {H H' : Hp} (hm : ∀ a o, H a = some o → H' a = some o) : ∀ (p : PyData) (u : V), Dp K H u p → Dp K H' u p
  | .none, _, h => by cases h; exact .non
  | .bool _, _, h => by cases h; exact .bl _
  | .int _, _, h => by cases h; exact .int _
  | .str _, _, h => by cases h; exact .str _
  | .list ds, _, h => by
    cases h with
    | lst s r => exact .lst (sqL_more hm s) (dpAll_mono hm ds _ r)
  | .tuple ds, _, h => by
    cases h with
    | tup s r => exact .tup (sqT_more hm s) (dpAll_mono hm ds _ r)
  | .dict _, _, h => by cases h
theorem dpAll_mono {K : PySem.W.Frag} {H H' : Hp} (hm : ∀ a o, H a = some o → H' a = some o) : ∀ (ps : List PyData) (us : List V), DpAll K H us ps → DpAll K H' us ps
  | [], _, h => by cases h; exact .nil
  | p :: ps, _, h => by
    cases h with
    | cons h1 h2 => exact .cons (dp_mono hm p _ h1) (dpAll_mono hm ps _ h2)
end
theorem SOk.dp (s : SOk T fz ph st H) {d : D} {u : V} {p : PyData} (h : Rep T.K T.L fz ph d u) (e : d.py = some p) : Dp T.K H u p := dp_mono s.sub p u (rep_dp d u p h e)
end
end DV

namespace DV
open PySem PySem.Spec PyProof.Rows L2
/-! ### == -/
def scalE : D → D → Option Bool
  | .int i, .int j => some (decide (i = j))
  | .str a, .str b => some (decide (a = b))
  | .bl a, .bl b => some (decide (a = b))
  | .non, .non => some true
  | .non, .int _ => some false
  | .int _, .non => some false
  | .non, .str _ => some false
  | .str _, .non => some false
  | .non, .bl _ => some false
  | .bl _, .non => some false
  | .int _, .str _ => some false
  | .str _, .int _ => some false
  | .bl _, .str _ => some false
  | .str _, .bl _ => some false
  | _, _ => none
def D.shaped (d : D) : Bool := match d.py with
  | some p => SeqAt.shaped p
  | none => false
def D.eqv (d e : D) : Bool := match d.py, e.py with
  | some p, some q => p.eqv q
  | _, _ => false
def eqP (neg : Bool) (d e : D) (st : Store) : R D := match scalE d e with
  | some b => .ok (.bl (if neg then !b else b)) st
  | none => if d.shaped && e.shaped then .ok (.bl (if neg then !d.eqv e else d.eqv e)) st else .stuck
/-! ### dicts with keys that are ints and texts -/
def keyD : D → Option Key
  | .int i => some (.inl i)
  | .str x => some (.inr x)
  | _ => none
def valD (kvs : List (Key × D)) (k : Key) : Option D := (kvs.find? fun kv => decide (kv.1 = k)).map (·.2)
section
variable {X : Cx} {T : Pa} {fz H : Hp} {ph : List Addr} {st : Store} {σ : L2.St} {W : WX} {Q : VK}
theorem repK_val {k : Key} {d : D} : ∀ {kvs : List (Key × D)} {vs : List (Key × V)}, RepK T.K T.L fz ph kvs vs → valD kvs k = some d → ∃ u, valV vs k = some u ∧ Rep T.K T.L fz ph d u
  | [], _, _, e => by simp [valD] at e
  | (f, x) :: ds, _, h, e => by
    simp only [RepK] at h
    obtain ⟨v, r, e1, h1, h2⟩ := h
    subst e1
    by_cases c : f = k
    · subst c
      have e : some x = some d := by simpa [valD] using e
      cases e
      exact ⟨v, by simp [valV], h1⟩
    · have e : valD ds k = some d := by simpa [valD, List.find?_cons, c] using e
      obtain ⟨u, h3, h4⟩ := repK_val h2 e
      exact ⟨u, by simpa [valV, List.find?_cons, c] using h3, h4⟩
theorem repK_none {k : Key} : ∀ {kvs : List (Key × D)} {vs : List (Key × V)}, RepK T.K T.L fz ph kvs vs → valD kvs k = none → valV vs k = none
  | [], _, h, _ => by simp only [RepK] at h; subst h; rfl
  | (f, x) :: ds, _, h, e => by
    simp only [RepK] at h
    obtain ⟨v, r, e1, h1, h2⟩ := h
    subst e1
    by_cases c : f = k
    · subst c; simp [valD] at e
    · have e : valD ds k = none := by simpa [valD, List.find?_cons, c] using e
      have := repK_none h2 e
      simpa [valV, List.find?_cons, c] using this
theorem rep_dK {kvs : List (Key × D)} {u : V} (h : Rep T.K T.L fz ph (.dK kvs) u) : ∃ a vs, u = .ref a ∧ Rd fz a (.dK vs) ∧ RepK T.K T.L fz ph kvs vs := by
  simpa only [Rep, DiK] using h
theorem key_rep {d : D} {k : Key} {y : V} (e : keyD d = some k) (r : Rep T.K T.L fz ph d y) : y = kV k := by
  cases d with
  | int i => rw [rep_int r]; cases (Option.some.inj e); rfl
  | str x => rw [rep_str r]; cases (Option.some.inj e); rfl
  | _ => cases e
theorem SOk.rdK (s : SOk T fz ph st H) {a : Addr} {vs : List (Key × V)} (h : Rd fz a (.dK vs)) : Rd H a (.dK vs) := rd_more s.sub h
end
def flatD : D → Bool
  | .non => true
  | .bl _ => true
  | .int _ => true
  | .str _ => true
  | _ => false
def eqF : D → D → Bool
  | .non, .non => true
  | .bl a, .bl b => a == b
  | .bl a, .int b => (if a then 1 else 0) == b
  | .int a, .bl b => a == (if b then 1 else 0)
  | .int a, .int b => a == b
  | .str a, .str b => a == b
  | _, _ => false
def inF (d : D) (xs : List D) : Bool := xs.any fun y => eqF y d
def inP (neg : Bool) (d e : D) (st : Store) : R D := match e with
  | .tup xs => if flatD d && xs.all flatD then .ok (.bl (if neg then !inF d xs else inF d xs)) st else .stuck
  | .lst xs => if flatD d && xs.all flatD then .ok (.bl (if neg then !inF d xs else inF d xs)) st else
      if d.shaped && (D.lst xs).shaped then .ok (.bl (if neg then !(xs.any fun z => z.eqv d) else xs.any fun z => z.eqv d)) st else .stuck
  | .str b => (match d with
    | .str a => .ok (.bl (if neg then !(!(Builtin.Str.occurrences b a 0 b.length 1).isEmpty) else !(Builtin.Str.occurrences b a 0 b.length 1).isEmpty)) st
    | _ => .stuck)
  | .dK kvs => (match keyD d with
    | some k => .ok (.bl (if neg then !(valD kvs k).isSome else (valD kvs k).isSome)) st
    | none => .stuck)
  | _ => .stuck
def isNonD : D → Bool
  | .non => true
  | _ => false
def isP (neg : Bool) (d e : D) (st : Store) : R D := match e with
  | .non => .ok (.bl (if neg then !isNonD d else isNonD d)) st
  | .bl b => (match d with
    | .bl a => .ok (.bl (if neg then !decide (a = b) else decide (a = b))) st
    | _ => .stuck)
  | _ => .stuck
def ordP (f : Int → Int → Bool) (g : List Nat → List Nat → Bool) (d e : D) (st : Store) : R D := match d, e with
  | .int i, .int j => .ok (.bl (f i j)) st
  | .str a, .str b => .ok (.bl (g a.cps.toList b.cps.toList)) st
  | _, _ => .stuck
def cmpP (op : CmpOp) (d e : D) (st : Store) : R D := match op with
  | .Eq => eqP false d e st
  | .NotEq => eqP true d e st
  | .Lt => ordP (fun i j => decide (i < j)) (fun a b => decide (a < b)) d e st
  | .LtE => ordP (fun i j => decide (i ≤ j)) (fun a b => !decide (b < a)) d e st
  | .Gt => ordP (fun i j => decide (j < i)) (fun a b => decide (b < a)) d e st
  | .GtE => ordP (fun i j => decide (j ≤ i)) (fun a b => !decide (a < b)) d e st
  | .In => inP false d e st
  | .NotIn => inP true d e st
  | .Is => isP false d e st
  | .IsNot => isP true d e st
section
variable {X : Cx} {T : Pa} {fz H : Hp} {ph : List Addr} {st : Store} {σ : L2.St} {W : WX} {Q : VK}
def rEqA (K : PySem.W.Frag) (neg : Bool) : R2 := fun x y H Q => (scal x y = true ∧ Q (.bl (if neg then !decide (x = y) else decide (x = y))) H) ∨
  ∃ d e, Dp K H x d ∧ Dp K H y e ∧ SeqAt.shaped d = true ∧ SeqAt.shaped e = true ∧ Q (.bl (if neg then !PyData.eqv d e else PyData.eqv d e)) H
theorem op_eqA (hu : X.A.units + 64 < cLine) : OpR X (compareOp .Eq) (rEqA X.K false) := op_eq.or (op_eqD hu)
theorem op_neA (hu : X.A.units + 64 < cLine) : OpR X (compareOp .NotEq) (rEqA X.K true) := op_ne.or (op_neD hu)
theorem scalE_ok {d e : D} {x y : V} {b : Bool} (rx : Rep T.K T.L fz ph d x) (ry : Rep T.K T.L fz ph e y) (h : scalE d e = some b) : scal x y = true ∧ decide (x = y) = b := by
  cases d <;> cases e <;> simp only [scalE, Option.some.injEq, reduceCtorEq] at h <;> subst h <;> simp only [Rep] at rx ry <;> subst rx ry <;> exact ⟨rfl, by simp⟩
theorem shaped_of {d : D} (h : d.shaped = true) : ∃ p, d.py = some p ∧ SeqAt.shaped p = true := by
  unfold D.shaped at h
  cases q : d.py with
  | none => rw [q] at h; cases h
  | some p => rw [q] at h; exact ⟨p, rfl, h⟩
theorem keep_eq (T : Pa) (neg : Bool) : Keep2 T (rEqA T.K neg) (eqP neg) := by
  intro W fz H ph σ st d e x y Q s rx ry h
  unfold eqP at h
  cases q : scalE d e with
  | some b =>
    rw [q] at h
    obtain ⟨h1, h2⟩ := scalE_ok rx ry q
    refine .inl ⟨h1, ?_⟩
    rw [h2]
    exact h.here s (by simp only [Rep])
  | none =>
    rw [q] at h
    have h : RP T W fz ph σ H Q (if (d.shaped && e.shaped) = true then .ok (.bl (if neg then !d.eqv e else d.eqv e)) st else .stuck) := h
    by_cases c : (d.shaped && e.shaped) = true
    · rw [if_pos c] at h
      obtain ⟨c1, c2⟩ := Bool.and_eq_true_iff.mp c
      obtain ⟨p, e1, s1⟩ := shaped_of c1
      obtain ⟨p2, e2, s2⟩ := shaped_of c2
      refine .inr ⟨p, p2, s.dp rx e1, s.dp ry e2, s1, s2, ?_⟩
      have z : d.eqv e = p.eqv p2 := by unfold D.eqv; rw [e1, e2]
      rw [z] at h
      exact h.here s (by simp only [Rep])
    · rw [if_neg c] at h; exact h.elim
/-! ### in -/
def rInA (K : PySem.W.Frag) (neg : Bool) : R2 := fun x y H Q => rIn K neg x y H Q ∨
  (∃ d ds, Dp K H x d ∧ Dp K H y (.list ds) ∧ SeqAt.shaped d = true ∧ SeqAt.shaped (.list ds) = true ∧ Q (.bl (if neg then !(ds.any fun z => PyData.eqv z d) else ds.any fun z => PyData.eqv z d)) H) ∨
  (∃ i j, x = .str i ∧ y = .str j ∧ Q (.bl (if neg then !(!(Builtin.Str.occurrences j i 0 j.length 1).isEmpty) else !(Builtin.Str.occurrences j i 0 j.length 1).isEmpty)) H) ∨
  (∃ a o, y = .ref a ∧ DGet H a x o ∧ Q (.bl (if neg then !o.isSome else o.isSome)) H)
theorem op_inG (hu : X.A.units + 1 < cLine) : OpR X (compareOp .In) (fun x y H Q => ∃ a o, y = .ref a ∧ DGet H a x o ∧ Q (.bl (if false then !o.isSome else o.isSome)) H) := by
  intro pins s σ H x y v u Q I rx ry h
  obtain ⟨a, o, rfl, g, q⟩ := h
  cases ry
  exact d_in hu I g rx fun s3 I3 => ⟨.bl o.isSome, H, I3, rfl, q⟩
theorem op_notInG (hu : X.A.units + 1 < cLine) : OpR X (compareOp .NotIn) (fun x y H Q => ∃ a o, y = .ref a ∧ DGet H a x o ∧ Q (.bl (if true then !o.isSome else o.isSome)) H) := by
  intro pins s σ H x y v u Q I rx ry h
  obtain ⟨a, o, rfl, g, q⟩ := h
  cases ry
  exact d_notIn hu I g rx fun s3 I3 => ⟨.bl (!o.isSome), H, I3, rfl, q⟩
theorem op_inA (hu : X.A.units + 65 < cLine) : OpR X (compareOp .In) (rInA X.K false) := op_in_seq.or ((op_inD hu).or (op_in_str.or (op_inG (by omega))))
theorem op_notInA (hu : X.A.units + 65 < cLine) : OpR X (compareOp .NotIn) (rInA X.K true) := op_notIn_seq.or ((op_notInD hu).or (op_notin_str.or (op_notInG (by omega))))
theorem flatD_ok {d : D} {x : V} (r : Rep T.K T.L fz ph d x) (h : flatD d = true) : flatV x = true := by
  cases d <;> simp only [flatD, Bool.false_eq_true] at h <;> simp only [Rep] at r <;> subst r <;> rfl
theorem eqF_ok {d e : D} {x y : V} (rx : Rep T.K T.L fz ph d x) (ry : Rep T.K T.L fz ph e y) (h : flatD d = true) (h' : flatD e = true) : eqV x y = eqF d e := by
  cases d <;> simp only [flatD, Bool.false_eq_true] at h <;> cases e <;> simp only [flatD, Bool.false_eq_true] at h' <;> simp only [Rep] at rx ry <;> subst rx ry <;> rfl
theorem flats_ok : ∀ {ds : List D} {xs : List V}, Reps T.K T.L fz ph ds xs → ds.all flatD = true → xs.all flatV = true
  | [], _, r, _ => by rw [reps0 r]; rfl
  | d :: ds, _, r, h => by
    simp only [Reps] at r
    obtain ⟨v, q, e, h1, h2⟩ := r
    subst e
    simp only [List.all_cons, Bool.and_eq_true] at h ⊢
    exact ⟨flatD_ok h1 h.1, flats_ok h2 h.2⟩
theorem inF_ok {d : D} {x : V} (rx : Rep T.K T.L fz ph d x) (hd : flatD d = true) : ∀ {ds : List D} {xs : List V}, Reps T.K T.L fz ph ds xs → ds.all flatD = true → inV x xs = inF d ds
  | [], _, r, _ => by rw [reps0 r]; rfl
  | e :: ds, _, r, h => by
    simp only [Reps] at r
    obtain ⟨v, q, e', h1, h2⟩ := r
    subst e'
    simp only [List.all_cons, Bool.and_eq_true] at h
    have z := inF_ok rx hd h2 h.2
    simp only [inV, inF, List.any_cons] at z ⊢
    rw [z, eqF_ok h1 rx h.1 hd]
theorem pys_any {d : D} {p : PyData} (hd : d.py = some p) : ∀ {ds : List D} {ps : List PyData}, D.pys ds = some ps → (ps.any fun z => PyData.eqv z p) = ds.any fun z => z.eqv d
  | [], ps, h => by
    simp only [D.pys, Option.some.injEq] at h
    subst h
    rfl
  | e :: ds, ps, h => by
    simp only [D.pys] at h
    cases q : e.py with
    | none => rw [q] at h; cases h
    | some a =>
      cases q2 : D.pys ds with
      | none => rw [q, q2] at h; cases h
      | some b =>
        rw [q, q2] at h
        simp only [Option.some.injEq] at h
        subst h
        simp only [List.any_cons]
        rw [pys_any hd q2]
        unfold D.eqv
        rw [q, hd]
theorem keep_in (T : Pa) (neg : Bool) : Keep2 T (rInA T.K neg) (inP neg) := by
  intro W fz H ph σ st d e x y Q s rx ry h
  cases e <;> try exact absurd h id
  case str b =>
    cases d <;> try exact absurd h id
    rw [rep_str rx, rep_str ry]
    exact .inr (.inr (.inl ⟨_, _, rfl, rfl, h.here s (by simp only [Rep])⟩))
  case dK kvs =>
    have h : RP T W fz ph σ H Q (match keyD d with
      | some k => .ok (.bl (if neg then !(valD kvs k).isSome else (valD kvs k).isSome)) st
      | none => .stuck) := h
    cases e1 : keyD d with
    | none => rw [e1] at h; exact h.elim
    | some k =>
      rw [e1] at h
      obtain ⟨a, vs, e2, ha, ra⟩ := rep_dK ry
      refine .inr (.inr (.inr ⟨a, valV vs k, e2, .inl ⟨vs, k, s.rdK ha, key_rep e1 rx, rfl⟩, ?_⟩))
      have e3 : (valV vs k).isSome = (valD kvs k).isSome := by
        cases q : valD kvs k with
        | none => rw [repK_none ra q]; rfl
        | some z =>
          obtain ⟨u, hu, _⟩ := repK_val ra q
          rw [hu]; rfl
      rw [e3]
      exact h.here s (by simp only [Rep])
  case tup xs =>
    have h : RP T W fz ph σ H Q (if (flatD d && xs.all flatD) = true then .ok (.bl (if neg then !inF d xs else inF d xs)) st else .stuck) := h
    by_cases c : (flatD d && xs.all flatD) = true
    · rw [if_pos c] at h
      obtain ⟨c1, c2⟩ := Bool.and_eq_true_iff.mp c
      obtain ⟨a, vs, e1, ha, ra⟩ := rep_tup ry
      refine .inl ⟨a, vs, e1, .inr (s.sqT ha), flatD_ok rx c1, flats_ok ra c2, ?_⟩
      rw [inF_ok rx c1 ra c2]
      exact h.here s (by simp only [Rep])
    · rw [if_neg c] at h; exact h.elim
  case lst xs =>
    have h : RP T W fz ph σ H Q (if (flatD d && xs.all flatD) = true then .ok (.bl (if neg then !inF d xs else inF d xs)) st else
      if (d.shaped && (D.lst xs).shaped) = true then .ok (.bl (if neg then !(xs.any fun z => z.eqv d) else xs.any fun z => z.eqv d)) st else .stuck) := h
    by_cases c : (flatD d && xs.all flatD) = true
    · rw [if_pos c] at h
      obtain ⟨c1, c2⟩ := Bool.and_eq_true_iff.mp c
      obtain ⟨a, vs, e1, ha, ra⟩ := rep_lst ry
      refine .inl ⟨a, vs, e1, .inl (.inl (s.rd ha)), flatD_ok rx c1, flats_ok ra c2, ?_⟩
      rw [inF_ok rx c1 ra c2]
      exact h.here s (by simp only [Rep])
    · rw [if_neg c] at h
      by_cases c : (d.shaped && (D.lst xs).shaped) = true
      · rw [if_pos c] at h
        obtain ⟨c1, c2⟩ := Bool.and_eq_true_iff.mp c
        obtain ⟨p, e1, s1⟩ := shaped_of c1
        obtain ⟨p2, e2, s2⟩ := shaped_of c2
        have e2' := e2
        simp only [D.py, Option.map_eq_some_iff] at e2'
        obtain ⟨ps, e3, e4⟩ := e2'
        subst e4
        refine .inr (.inl ⟨p, ps, s.dp rx e1, s.dp ry e2, s1, s2, ?_⟩)
        rw [pys_any e1 e3]
        exact h.here s (by simp only [Rep])
      · rw [if_neg c] at h; exact h.elim
/-! ### is -/
def rIsA (neg : Bool) : R2 := fun x y H Q => (y = .non ∧ Q (.bl (if neg then !decide (x = .non) else decide (x = .non))) H) ∨ ∃ a b, x = .bl a ∧ y = .bl b ∧ Q (.bl (if neg then !decide (a = b) else decide (a = b))) H
theorem op_isA : OpR X (compareOp .Is) (rIsA false) := op_isN.or op_is_bl
theorem op_isNotA : OpR X (compareOp .IsNot) (rIsA true) := op_notN.or op_isnot_bl
theorem non_ok {d : D} {x : V} (r : Rep T.K T.L fz ph d x) : decide (x = .non) = isNonD d := by
  cases d <;> simp only [Rep] at r
  case non => subst r; rfl
  case bl => subst r; rfl
  case int => subst r; rfl
  case str => subst r; rfl
  case ty => subst r; rfl
  case glo => subst r; rfl
  case ref => obtain ⟨a, e, _⟩ := r; subst e; rfl
  case tup => obtain ⟨a, vs, e, _⟩ := r; subst e; rfl
  case lst => obtain ⟨a, vs, e, _⟩ := r; subst e; rfl
  case ins => obtain ⟨a, dx, vs, e, _⟩ := r; subst e; rfl
  case dK => obtain ⟨a, vs, e, _⟩ := r; subst e; rfl
  case dT => obtain ⟨a, vs, e, _⟩ := r; subst e; rfl
  case clo => obtain ⟨f, l, cells, pm, c, ct, vs, e, _⟩ := r; subst e; rfl
theorem keep_is (T : Pa) (neg : Bool) : Keep2 T (rIsA neg) (isP neg) := by
  intro W fz H ph σ st d e x y Q s rx ry h
  cases e <;> try exact absurd h id
  case non =>
    refine .inl ⟨rep_non ry, ?_⟩
    rw [non_ok rx]
    exact h.here s (by simp only [Rep])
  case bl b =>
    cases d <;> try exact absurd h id
    rw [rep_bl rx, rep_bl ry]
    exact .inr ⟨_, _, rfl, rfl, h.here s (by simp only [Rep])⟩
/-! ### orders -/
def rOrd (f : Int → Int → Bool) (g : List Nat → List Nat → Bool) : R2 := fun x y H Q => rI0 (fun i j => .bl (f i j)) x y H Q ∨ ∃ i j, x = .str i ∧ y = .str j ∧ Q (.bl (g i.cps.toList j.cps.toList)) H
theorem keep_ord (T : Pa) (f : Int → Int → Bool) (g : List Nat → List Nat → Bool) : Keep2 T (rOrd f g) (ordP f g) := by
  intro W fz H ph σ st d e x y Q s rx ry h
  cases d <;> cases e <;> try exact absurd h id
  · rw [rep_int rx, rep_int ry]
    exact .inl ⟨_, _, rfl, rfl, h.here s (by simp only [Rep])⟩
  · rw [rep_str rx, rep_str ry]
    exact .inr ⟨_, _, rfl, rfl, h.here s (by simp only [Rep])⟩
def rCmp (K : PySem.W.Frag) : CmpOp → R2
  | .Eq => rEqA K false
  | .NotEq => rEqA K true
  | .Lt => rOrd (fun i j => decide (i < j)) (fun a b => decide (a < b))
  | .LtE => rOrd (fun i j => decide (i ≤ j)) (fun a b => !decide (b < a))
  | .Gt => rOrd (fun i j => decide (j < i)) (fun a b => decide (b < a))
  | .GtE => rOrd (fun i j => decide (j ≤ i)) (fun a b => !decide (a < b))
  | .In => rInA K false
  | .NotIn => rInA K true
  | .Is => rIsA false
  | .IsNot => rIsA true
theorem op_cmp (hu : X.A.units + 65 < cLine) (op : CmpOp) : OpR X (compareOp op) (rCmp X.K op) := by
  cases op with
  | Eq => exact op_eqA (by omega)
  | NotEq => exact op_neA (by omega)
  | Lt => exact op_lt.or op_lt_str
  | LtE => exact op_le.or op_le_str
  | Gt => exact op_gt.or op_gt_str
  | GtE => exact op_ge.or op_ge_str
  | In => exact op_inA hu
  | NotIn => exact op_notInA hu
  | Is => exact op_isA
  | IsNot => exact op_isNotA
theorem keep_cmp (T : Pa) (op : CmpOp) : Keep2 T (rCmp T.K op) (cmpP op) := by
  cases op with
  | Eq => exact keep_eq T false
  | NotEq => exact keep_eq T true
  | Lt => exact keep_ord T (fun i j => decide (i < j)) (fun a b => decide (a < b))
  | LtE => exact keep_ord T (fun i j => decide (i ≤ j)) (fun a b => !decide (b < a))
  | Gt => exact keep_ord T (fun i j => decide (j < i)) (fun a b => decide (b < a))
  | GtE => exact keep_ord T (fun i j => decide (j ≤ i)) (fun a b => !decide (a < b))
  | In => exact keep_in T false
  | NotIn => exact keep_in T true
  | Is => exact keep_is T false
  | IsNot => exact keep_is T true
end
end DV

namespace DV
open PySem PySem.Spec PyProof.Rows L2

/-- what is fixed in a def -/
structure Cd where
  T : Pa
  P : Program
  w : World
  mg : Str → Option Value
  base : Heap
  N : List Str
  k : Nat
  G : Gam
/-- a def's own room: two calls of built-ins deeper too -/
structure Room2 (k : Nat) (A : Around) : Prop where
  room : Room k A
  dp : A.depth + 3 * k + 7 < recursionLimit
  un : A.units + 16 * k + 213 < cLine
theorem Room2.of {k : Nat} {A : Around} {env : PySem.Env} (r : Room (k + 1) A) : Room2 k (A.deeper env) :=
  ⟨r.deeper env, by have := r.dp; show A.depth + 1 + 3 * k + 7 < _; omega, by have := r.un; show A.units + 3 + 16 * k + 213 < _; omega⟩
theorem Room2.in1 {k : Nat} {A : Around} (r : Room2 k A) : Room k A.in1 := ⟨r.room.hd, by have := r.room.dp; show A.depth + 3 * k + 5 < _; omega, by have := r.un; show A.units + 1 + 16 * k + 200 < _; omega⟩
theorem Room2.in3 {k : Nat} {A : Around} (r : Room2 k A) : Room k A.in1.in1.in1 := ⟨r.room.hd, by have := r.room.dp; show A.depth + 3 * k + 5 < _; omega, by have := r.un; show A.units + 1 + 1 + 1 + 16 * k + 200 < _; omega⟩
/-- a context of this def: its body, a comprehension's block in it, an except suite (not calm) -/
structure Ctx (c : Cd) (cm : Bool) (sc : Scope) (X : Cx) : Prop where
  prog : X.prog = c.P
  w : X.w = c.w
  K : X.K = c.T.K
  mg : X.mg = c.mg
  base : X.base = c.base
  N : X.N = c.N
  nd : c.N.Nodup
  sc : X.env.scope = sc
  gd : X.A.guards = some []
  un : X.A.units + 16 * c.k + 200 < cLine
  calm : cm = true → X.calm = true ∧ Room2 c.k X.A
  hn : cm = true → c.T.hx = none
  hx : ∀ a cn, c.T.hx = some (a, cn) → ∃ (X0 : Cx) (oe : Obj) (pn : List (Addr × Obj)), X = X0.suite a ((a, oe) :: pn) ∧ Zc (.ref (He.ga c.T.K cn)) none oe ∧ ∃ vs, oe.data = .fields vs
def SE (c : Cd) (cm : Bool) (sc : Scope) (e : PySem.Expr) (f : Sh) : Prop := ∀ X W, Ctx c cm sc X → Takes X W → PE X e (tE c.T W f)
/-- as a test -/
def ST (c : Cd) (cm : Bool) (sc : Scope) (e : PySem.Expr) (f : Sh) : Prop := ∀ X W, Ctx c cm sc X → Takes X W → PT X e (tTest (tE c.T W f))
def STw (c : Cd) (cm : Bool) (sc : Scope) (e : PySem.Expr) (f : Sh) : Prop := ∀ X W, Ctx c cm sc X → Takes X W → PW X e (tTest (tE c.T W f))
theorem peI {X : Cx} {e : PySem.Expr} {t u : TE} (h : PE X e t) (i : ∀ σ H Q, u σ H Q → t σ H Q) : PE X e u := ⟨fun pins s σ H Q I q => h.run pins s σ H Q I (i σ H Q q)⟩
theorem ptI {X : Cx} {e : PySem.Expr} {t u : TT} (h : PT X e t) (i : ∀ σ H Q, u σ H Q → t σ H Q) : PT X e u := ⟨fun pins s σ H Q I q => h.run pins s σ H Q I (i σ H Q q)⟩
theorem pwI {X : Cx} {e : PySem.Expr} {t u : TT} (h : PW X e t) (i : ∀ σ H Q, u σ H Q → t σ H Q) : PW X e u := ⟨fun w pins s σ H Q I q => h.run w pins s σ H Q I (i σ H Q q)⟩
theorem paI {X : Cx} {e : List PySem.Expr} {t u : TA} (h : PA X e t) (i : ∀ σ H Q, u σ H Q → t σ H Q) : PA X e u := ⟨fun w pins s σ H Q I q => h.run w pins s σ H Q I (i σ H Q q)⟩
section
variable {T : Pa} {fz H : Hp} {ph : List Addr} {st : Store} {σ : L2.St} {W : WX} {Q : VK}
theorem tE_mono {f : Sh} {Q Q' : VK} (hq : ∀ u H', Q u H' → Q' u H') (h : tE T W f σ H Q) : tE T W f σ H Q' := by
  obtain ⟨fz, ph, ρ, st, s, e, r⟩ := h
  refine ⟨fz, ph, ρ, st, s, e, ?_⟩
  cases q : f ρ st with
  | ok d st' => rw [q] at r; exact fun f p H' u x s' r' => hq _ _ (r f p H' u x s' r')
  | ex c fs st' => rw [q] at r; exact r
  | stuck => rw [q] at r; exact r
/-- the first part of a reckoning; what is behind it, from where it comes out -/
theorem RP.step {α : Type} {r : R D} {k : D → Store → R D} {Q' : VK} (h : RP T W fz ph σ H Q (r.bind k))
    (hk : ∀ d st fz' ph' H' u, Ext fz ph H fz' ph' H' → SOk T fz' ph' st H' → Rep T.K T.L fz' ph' d u → RP T W fz' ph' σ H' Q (k d st) → Q' u H') : RP T W fz ph σ H Q' r := by
  cases r with
  | ok d st' => exact fun f p H' u x s' r' => hk d st' f p H' u x s' r' (RP.ext (r := k d st') h x)
  | ex c fs st' => exact h
  | stuck => exact h
theorem tE.step {f : Sh} {k : D → Sh} {Q' : V → Hp → Prop} (h : tE T W (fun ρ st => (f ρ st).bind fun d st => k d ρ st) σ H Q)
    (hk : ∀ d ρ st fz' ph' H' u, SOk T fz' ph' st H' → EOk T fz' ph' ρ σ → Rep T.K T.L fz' ph' d u → RP T W fz' ph' σ H' Q (k d ρ st) → Q' u H') : tE T W f σ H Q' := by
  obtain ⟨fz, ph, ρ, st, s, e, r⟩ := h
  exact ⟨fz, ph, ρ, st, s, e, RP.step (α := D) r fun d st' f p H' u x s' r' q => hk d ρ st' f p H' u s' (e.ext x) r' q⟩
theorem two_step {f g : Sh} {p : D → D → Store → R D} {r : R2} (hp : Keep2 T r p) (h : tE T W (fun ρ st => (f ρ st).bind fun d st => (g ρ st).bind fun e st => p d e st) σ H Q) :
    tE T W f σ H fun x H1 => tE T W g σ H1 fun y H2 => r x y H2 Q :=
  tE.step (k := fun d ρ st => (g ρ st).bind fun e st => p d e st) h fun d ρ st fz ph H1 x s e rx q =>
    ⟨fz, ph, ρ, st, s, e, RP.step (α := D) q fun d' st' f p' H2 y ex s' ry q' => hp W f H2 p' σ st' d d' x y Q s' (Rep.more ex.more d x rx) ry q'⟩
theorem un_step {f : Sh} {p : D → Store → R D} {r : V → Hp → VK → Prop} (hp : Keep1 T r p) (h : tE T W (fun ρ st => (f ρ st).bind fun d st => p d st) σ H Q) :
    tE T W f σ H fun x H1 => r x H1 Q :=
  tE.step (k := fun d _ st => p d st) h fun d ρ st fz ph H1 x s e rx hr => hp W fz H1 ph σ st d x Q s rx hr
end

/-! ### names, constants -/
def visB (sc : Scope) (x : Str) : Bool := match sc.names.lookup x with
  | some .local => true
  | some .cell => true
  | some .free => true
  | _ => false
theorem visB_ok {sc : Scope} {x : Str} (h : visB sc x = true) : Vis sc x := by
  unfold visB at h
  unfold Vis
  split at h <;> simp_all
def shVar (i : Nat) : Sh := fun ρ st => match ρ[i]? with
  | some (.v d) => .ok d st
  | _ => .stuck
def shC (d : D) : Sh := fun _ st => .ok d st
section
variable {c : Cd} {cm : Bool} {sc : Scope} {a b : PySem.Expr} {fa fb : Sh} {pos : Pos}
theorem se_var {i : Nat} {x : Str} (hN : c.N[i]? = some x) (hv : visB sc x = true) (hd : (x == ("__debug__" : Str)) = false) (hcd : (x == ("__classdict__" : Str)) = false) : SE c cm sc (.Name x pos) (shVar i) := by
  intro X W hX tk
  refine peI (pe_var (i := i) (by rw [hX.N]; exact hN) (by rw [hX.sc]; exact visB_ok hv) hd hcd) fun σ H Q h => ?_
  obtain ⟨fz, ph, ρ, st, s, e, r⟩ := h
  unfold shVar at r
  cases q : ρ[i]? with
  | none => rw [q] at r; exact r.elim
  | some sl =>
    rw [q] at r
    cases sl with
    | v d =>
      have hi : i < ρ.length := (List.getElem?_eq_some_iff.mp q).1
      have hl : i < σ.length := by rw [← e.len]; exact hi
      obtain ⟨y, e1, e2⟩ := e.sl i _ σ[i] q (List.getElem?_eq_getElem hl)
      exact ⟨y, by rw [List.getElem?_eq_getElem hl, e1], r.here s e2⟩
    | _ => exact r.elim
/-- a value that lies so everywhere -/
def Everywhere (c : Cd) (d : D) (v : V) : Prop := ∀ fz ph, Rep c.T.K c.T.L fz ph d v
theorem se_of_tC {e : PySem.Expr} {d : D} {v : V} (h : ∀ X, Ctx c cm sc X → PE X e (tC v)) (r : Everywhere c d v) : SE c cm sc e (shC d) := by
  intro X W hX tk
  refine peI (h X hX) fun σ H Q q => ?_
  obtain ⟨fz, ph, ρ, st, s, e, q⟩ := q
  exact RP.here (d := d) q s (r fz ph)
theorem se_int {i : Int} {j} : SE c cm sc (.Constant (.int i) j pos) (shC (.int i)) := se_of_tC (fun X _ => pe_int) fun _ _ => by simp only [Rep]
theorem se_bl {i : Bool} {j} : SE c cm sc (.Constant (.bool i) j pos) (shC (.bl i)) := se_of_tC (fun X _ => pe_bl) fun _ _ => by simp only [Rep]
theorem se_non {j} : SE c cm sc (.Constant .none j pos) (shC .non) := se_of_tC (fun X _ => pe_non) fun _ _ => by simp only [Rep]
theorem se_str {x : Str} {j} : SE c cm sc (.Constant (.str x) j pos) (shC (.str x)) := se_of_tC (fun X _ => pe_str) fun _ _ => by simp only [Rep]
/-- a name of the module -/
structure GlobOk (c : Cd) (x : Str) (d : D) : Prop where
  at_ : ∃ u v, c.mg x = some u ∧ RelV v u ∧ Everywhere c d v
def glB (sc : Scope) (x : Str) : Bool := match sc.names.lookup x with
  | some .globalImplicit => true
  | _ => false
theorem glB_ok {X : Cx} {x : Str} (hX : Ctx c cm sc X) (h : glB sc x = true) : Gl X x := by
  unfold Gl Env.kindOf
  rw [hX.sc]
  unfold glB at h
  split at h <;> simp_all
theorem se_glob {x : Str} {d : D} (hg : glB sc x = true) (h : GlobOk c x d) (hd : (x == ("__debug__" : Str)) = false) : SE c cm sc (.Name x pos) (shC d) := by
  obtain ⟨u, v, e, r, ev⟩ := h.at_
  exact se_of_tC (fun X hX => pe_glob (glB_ok hX hg) (by rw [hX.mg]; exact e) r hd) ev
/-- a built-in's name as a value -/
theorem se_bty {x : Str} {n : String} (hg : glB sc x = true) (h : c.mg x = none) (hb : bootBuiltins x = some (.type n)) (hn : x ≠ "__name__") (hd : (x == ("__debug__" : Str)) = false) : SE c cm sc (.Name x pos) (shC (.ty n)) :=
  se_of_tC (v := .ty n) (fun X hX => pe_bltn (glB_ok hX hg) (by rw [hX.mg]; exact h) hb rfl hn hd) fun _ _ => by simp only [Rep]

/-! ### operators -/
def shBin (op : Operator) (f g : Sh) : Sh := fun ρ st => (f ρ st).bind fun d st => (g ρ st).bind fun e st => binP op d e st
def shUn (op : UnaryOp) (f : Sh) : Sh := fun ρ st => (f ρ st).bind fun d st => unP op d st
def shCmp (op : CmpOp) (f g : Sh) : Sh := fun ρ st => (f ρ st).bind fun d st => (g ρ st).bind fun e st => cmpP op d e st
theorem se_bin {op : Operator} (ha : SE c cm sc a fa) (hb : SE c cm sc b fb) : SE c cm sc (.BinOp a op b pos) (shBin op fa fb) := fun X W hX tk =>
  peI (pe_op (op_bin op) (ha X W hX tk) (hb X W hX tk)) fun σ H Q h => by
    rw [hX.K]
    exact two_step (keep_bin c.T op) h
theorem se_un {op : UnaryOp} (ha : SE c cm sc a fa) : SE c cm sc (.UnaryOp op a pos) (shUn op fa) := fun X W hX tk =>
  peI (pe_un (op_un op) (ha X W hX tk)) fun σ H Q h => un_step (keep_un c.T op) h
theorem Ctx.u65 {X : Cx} (h : Ctx c cm sc X) : X.A.units + 65 < cLine := by have := h.un; omega
/-- the marks of a written set do not stand behind in -/
def markB (op : CmpOp) : PySem.Expr → Bool
  | .Set _ _ _ => false
  | .Constant _ _ _ => true
  | .Name _ _ => true
  | .Tuple _ _ _ => true
  | .List _ _ => true
  | .Call _ _ _ _ => true
  | .Attribute _ _ _ => true
  | .Subscript _ _ _ => true
  | .BinOp _ _ _ _ => true
  | .UnaryOp _ _ _ => true
  | .IfExp _ _ _ _ => true
  | .ListComp _ _ _ _ => true
  | .Compare _ _ _ _ => true
  | .JoinedStr _ _ => true
  | .BoolOp _ _ _ => true
  | .Dict _ _ _ => true
  | _ => false
theorem markB_ok {op : CmpOp} {b : PySem.Expr} (h : markB op b = true) : behindInMarks op b = false := by
  cases b <;> first | rfl | exact absurd h Bool.false_ne_true
theorem se_cmp {op : CmpOp} (ha : SE c cm sc a fa) (hb : SE c cm sc b fb) (hm : markB op b = true) : SE c cm sc (.Compare a [op] [b] pos) (shCmp op fa fb) := fun X W hX tk =>
  peI (pe_cmpR (op_cmp hX.u65 op) (ha X W hX tk) (hb X W hX tk) (markB_ok hm)) fun σ H Q h => by
    rw [hX.K]
    exact two_step (keep_cmp c.T op) h
theorem tTest_mono {t : TE} {u : TE} {σ : L2.St} {H : Hp} {Q : Bool → Hp → Prop} (h : tTest u σ H Q) (i : ∀ σ H Q, u σ H Q → t σ H Q) : tTest t σ H Q := i _ _ _ h
theorem st_cmp {op : CmpOp} (ha : SE c cm sc a fa) (hb : SE c cm sc b fb) (hm : markB op b = true) : ST c cm sc (.Compare a [op] [b] pos) (shCmp op fa fb) := fun X W hX tk =>
  ptI (pt_cmpR (op_cmp hX.u65 op) (ha X W hX tk) (hb X W hX tk) (markB_ok hm)) fun σ H Q h => by
    refine tTest_mono h fun σ H Q h => ?_
    rw [hX.K]
    exact two_step (keep_cmp c.T op) h
/-! ### a < b < c -/
def shChain (op op' : CmpOp) (f g k : Sh) : Sh := fun ρ st => (f ρ st).bind fun d st => (g ρ st).bind fun e st => (cmpP op d e st).bind fun t st => match t with
  | .bl true => (k ρ st).bind fun d' st => cmpP op' e d' st
  | .bl false => .ok (.bl false) st
  | _ => .stuck
theorem rep_bl_iff {T : Pa} {fz : Hp} {ph : List Addr} {b : Bool} {u : V} (h : u = .bl b) : Rep T.K T.L fz ph (.bl b) u := by simpa only [Rep] using h
theorem chain_step {op op' : CmpOp} {f g k : Sh} {T : Pa} {W : WX} {σ : L2.St} {H : Hp} {Q : VK} (h : tE T W (shChain op op' f g k) σ H Q) : tChain (rCmp T.K op) (rCmp T.K op') (tE T W f) (tE T W g) (tE T W k) σ H Q :=
  tE.step (k := fun d ρ st => (g ρ st).bind fun e st => (cmpP op d e st).bind fun t st => match t with
    | .bl true => (k ρ st).bind fun d' st => cmpP op' e d' st
    | .bl false => .ok (.bl false) st
    | _ => .stuck) h fun d ρ st fz ph H1 x s e rx q =>
    ⟨fz, ph, ρ, st, s, e, RP.step (α := D) q fun d' st' f p' H2 y ex s' ry q' =>
      keep_cmp T op W f H2 p' σ st' d d' x y _ s' (Rep.more ex.more d x rx) ry (RP.step (α := D) q' fun t st2 f2 p2 H3 z ex2 s2 rz q2 => by
        cases t <;> try exact q2.elim
        rename_i bb
        refine ⟨bb, rep_bl rz, ?_⟩
        cases bb with
        | false =>
          rw [if_neg Bool.false_ne_true]
          exact RP.here (d := .bl false) q2 s2 (by simp only [Rep])
        | true =>
          rw [if_pos rfl]
          exact ⟨f2, p2, ρ, st2, s2, (e.ext ex).ext ex2, RP.step (α := D) q2 fun d3 st3 f3 p3 H4 w ex3 s3 rw' q3 =>
            keep_cmp T op' W f3 H4 p3 σ st3 d' d3 y w Q s3 (Rep.more (ex2.trans ex3).more d' y ry) rw' q3⟩)⟩
theorem se_chain {c : Cd} {cm : Bool} {sc : Scope} {a b d : PySem.Expr} {fa fb fd : Sh} {pos : Pos} {op op' : CmpOp} (ha : SE c cm sc a fa) (hb : SE c cm sc b fb) (hd : SE c cm sc d fd) (hm : lastMarks [op, op'] [b, d] = false) :
    SE c cm sc (.Compare a [op, op'] [b, d] pos) (shChain op op' fa fb fd) := fun X W hX tk =>
  peI (pe_chain (op_cmp hX.u65 op) (op_cmp hX.u65 op') (ha X W hX tk) (hb X W hX tk) (hd X W hX tk) hm) fun σ H Q h => by
    rw [hX.K]
    exact chain_step h
theorem st_chain {c : Cd} {cm : Bool} {sc : Scope} {a b d : PySem.Expr} {fa fb fd : Sh} {pos : Pos} {op op' : CmpOp} (ha : SE c cm sc a fa) (hb : SE c cm sc b fb) (hd : SE c cm sc d fd) (hm : lastMarks [op, op'] [b, d] = false) :
    ST c cm sc (.Compare a [op, op'] [b, d] pos) (shChain op op' fa fb fd) := fun X W hX tk =>
  ptI (pt_chain (op_cmp hX.u65 op) (op_cmp hX.u65 op') (ha X W hX tk) (hb X W hX tk) (hd X W hX tk) hm) fun σ H Q h => by
    refine tTest_mono h fun σ H Q h => ?_
    rw [hX.K]
    exact chain_step h
end
end DV

namespace DV
open PySem PySem.Spec PyProof.Rows L2

/-! ### truth -/
def truP : D → Option Bool
  | .non => some false
  | .bl b => some b
  | .int i => some (i != 0)
  | .str x => if x.length ≤ sizeLine then some ((x.length : Int) != 0) else none
  | .tup xs => some (!xs.isEmpty)
  | .lst xs => some (!xs.isEmpty)
  | _ => none
section
variable {T : Pa} {fz H : Hp} {ph : List Addr} {st : Store} {σ : L2.St} {W : WX} {Q : VK}
theorem Reps.empty {ds : List D} {us : List V} (h : Reps T.K T.L fz ph ds us) : us.isEmpty = ds.isEmpty := by
  have := h.length
  cases ds <;> cases us <;> simp_all
theorem tru_rep {d : D} {u : V} {k : Bool} (s : SOk T fz ph st H) (r : Rep T.K T.L fz ph d u) (e : truP d = some k) : TruV T.K u H k := by
  cases d with
  | non => rw [rep_non r]; exact (Option.some.inj e).symm
  | bl b => rw [rep_bl r]; exact (Option.some.inj e).symm
  | int i => rw [rep_int r]; exact (Option.some.inj e).symm
  | str x =>
    rw [rep_str r]
    have e : (if x.length ≤ sizeLine then some ((x.length : Int) != 0) else none) = some k := e
    by_cases c : x.length ≤ sizeLine
    · rw [if_pos c] at e
      exact ⟨c, (Option.some.inj e).symm⟩
    · rw [if_neg c] at e; cases e
  | tup xs =>
    obtain ⟨a, vs, e1, ha, ra⟩ := rep_tup r
    subst e1
    exact .inr (.inl ⟨vs, s.sqT ha, by rw [ra.empty]; exact (Option.some.inj e).symm⟩)
  | lst xs =>
    obtain ⟨a, vs, e1, ha, ra⟩ := rep_lst r
    subst e1
    exact .inl ⟨vs, .inl (s.rd ha), by rw [ra.empty]; exact (Option.some.inj e).symm⟩
  | _ => exact absurd e (by simp [truP])
end
def truR (d : D) (st : Store) : R D := match truP d with
  | some b => .ok (.bl b) st
  | none => .stuck
def shTru (f : Sh) : Sh := fun ρ st => (f ρ st).bind truR
def plainTest : PySem.Expr → Bool
  | .Name _ _ => true
  | .Call _ _ _ _ => true
  | .Subscript _ _ _ => true
  | .Attribute _ _ _ => true
  | .Constant _ _ _ => true
  | .BinOp _ _ _ _ => true
  | _ => false
section
variable {c : Cd} {cm : Bool} {sc : Scope} {a b : PySem.Expr} {es : List PySem.Expr} {fa fb fk : Sh} {pos : Pos}
theorem tru_step {f : Sh} {T : Pa} {W : WX} {σ : L2.St} {H : Hp} {Q : Bool → Hp → Prop} (h : tTest (tE T W (shTru f)) σ H Q) : tE T W f σ H fun x H' => ∃ k, TruV T.K x H' k ∧ Q k H' :=
  tE.step (k := fun d _ st => truR d st) h fun d ρ st fz ph H1 x s e rx q => by
    unfold truR at q
    cases e1 : truP d with
    | none => rw [e1] at q; exact q.elim
    | some k =>
      rw [e1] at q
      obtain ⟨k', e2, q⟩ := q.here (u := .bl k) s (by simp only [Rep])
      have : k = k' := V.bl.inj e2
      subst this
      exact ⟨k, tru_rep s rx e1, q⟩
theorem st_tru (ha : SE c cm sc a fa) (hp : plainTest a = true) : ST c cm sc a (shTru fa) := fun X W hX tk =>
  ptI (pt_truth (ha X W hX tk) (by cases a <;> first | exact (fun _ => rfl) | exact absurd hp Bool.false_ne_true)) fun σ H Q h => by rw [hX.K]; exact tru_step h
/-- not -/
def shNotB (f : Sh) : Sh := fun ρ st => (f ρ st).bind fun d st => match d with
  | .bl b => .ok (.bl (!b)) st
  | _ => .stuck
theorem st_not (ha : ST c cm sc a fa) : ST c cm sc (.UnaryOp .Not a pos) (shNotB fa) := fun X W hX tk =>
  ptI (pt_not (ha X W hX tk)) fun σ H Q h => tE.step (k := fun d _ st => match d with
    | .bl b => .ok (.bl (!b)) st
    | _ => .stuck) h fun d ρ st fz ph H1 x s e rx q => by
      cases d <;> try exact q.elim
      rename_i k
      obtain ⟨k', e2, q⟩ := q.here (u := .bl (!k)) s (by simp only [Rep])
      have : (!k) = k' := V.bl.inj e2
      subst this
      exact ⟨k, rep_bl rx, q⟩
def shAndB (f g : Sh) : Sh := fun ρ st => (f ρ st).bind fun d st => match d with
  | .bl true => g ρ st
  | .bl false => .ok (.bl false) st
  | _ => .stuck
def shOrB (f g : Sh) : Sh := fun ρ st => (f ρ st).bind fun d st => match d with
  | .bl true => .ok (.bl true) st
  | .bl false => g ρ st
  | _ => .stuck
theorem stw_and1 (ha : ST c cm sc a fa) : STw c cm sc (.BoolOp .And [a] pos) fa := fun X W hX tk => pw_and1 (ha X W hX tk)
theorem stw_or1 (ha : ST c cm sc a fa) : STw c cm sc (.BoolOp .Or [a] pos) fa := fun X W hX tk => pw_or1 (ha X W hX tk)
theorem stw_and (ha : ST c cm sc a fa) (hb : STw c cm sc (.BoolOp .And (b :: es) pos) fb) : STw c cm sc (.BoolOp .And (a :: b :: es) pos) (shAndB fa fb) := fun X W hX tk =>
  pwI (pw_and (ha X W hX tk) (hb X W hX tk)) fun σ H Q h => tE.step (k := fun d ρ st => match d with
    | .bl true => fb ρ st
    | .bl false => .ok (.bl false) st
    | _ => .stuck) h fun d ρ st fz ph H1 x s e rx q => by
      cases d <;> try exact q.elim
      rename_i k
      refine ⟨k, rep_bl rx, ?_⟩
      cases k with
      | false =>
        obtain ⟨k', e2, q⟩ := RP.here (d := .bl false) (u := .bl false) q s (by simp only [Rep])
        have : false = k' := V.bl.inj e2
        subst this
        exact q
      | true => exact ⟨fz, ph, ρ, st, s, e, q⟩
theorem stw_or (ha : ST c cm sc a fa) (hb : STw c cm sc (.BoolOp .Or (b :: es) pos) fb) : STw c cm sc (.BoolOp .Or (a :: b :: es) pos) (shOrB fa fb) := fun X W hX tk =>
  pwI (pw_or (ha X W hX tk) (hb X W hX tk)) fun σ H Q h => tE.step (k := fun d ρ st => match d with
    | .bl true => .ok (.bl true) st
    | .bl false => fb ρ st
    | _ => .stuck) h fun d ρ st fz ph H1 x s e rx q => by
      cases d <;> try exact q.elim
      rename_i k
      refine ⟨k, rep_bl rx, ?_⟩
      cases k with
      | true =>
        obtain ⟨k', e2, q⟩ := RP.here (d := .bl true) (u := .bl true) q s (by simp only [Rep])
        have : true = k' := V.bl.inj e2
        subst this
        exact q
      | false => exact ⟨fz, ph, ρ, st, s, e, q⟩
theorem st_of_w (h : STw c cm sc a fa) : ST c cm sc a fa := fun X W hX tk => (h X W hX tk).pt
/-! ### the same as values -/
def shAnd (f g : Sh) : Sh := fun ρ st => (f ρ st).bind fun d st => match truP d with
  | some true => g ρ st
  | some false => .ok d st
  | none => .stuck
def shOr (f g : Sh) : Sh := fun ρ st => (f ρ st).bind fun d st => match truP d with
  | some true => .ok d st
  | some false => g ρ st
  | none => .stuck
def shNot (f : Sh) : Sh := fun ρ st => (f ρ st).bind fun d st => match truP d with
  | some k => .ok (.bl (!k)) st
  | none => .stuck
theorem se_one {op : BoolOp} (ha : SE c cm sc a fa) : SE c cm sc (.BoolOp op [a] pos) fa := fun X W hX tk => pe_one (ha X W hX tk)
theorem se_and (ha : SE c cm sc a fa) (hb : SE c cm sc (.BoolOp .And (b :: es) pos) fb) : SE c cm sc (.BoolOp .And (a :: b :: es) pos) (shAnd fa fb) := fun X W hX tk =>
  peI (pe_andT (ha X W hX tk) (hb X W hX tk)) fun σ H Q h => tE.step (k := fun d ρ st => match truP d with
    | some true => fb ρ st
    | some false => .ok d st
    | none => .stuck) h fun d ρ st fz ph H1 x s e rx q => by
      cases e1 : truP d with
      | none => rw [e1] at q; exact q.elim
      | some k =>
        rw [e1] at q
        refine ⟨k, by rw [hX.K]; exact tru_rep s rx e1, ?_⟩
        cases k with
        | true => exact ⟨fz, ph, ρ, st, s, e, q⟩
        | false => exact RP.here (d := d) q s rx
theorem se_or (ha : SE c cm sc a fa) (hb : SE c cm sc (.BoolOp .Or (b :: es) pos) fb) : SE c cm sc (.BoolOp .Or (a :: b :: es) pos) (shOr fa fb) := fun X W hX tk =>
  peI (pe_orT (ha X W hX tk) (hb X W hX tk)) fun σ H Q h => tE.step (k := fun d ρ st => match truP d with
    | some true => .ok d st
    | some false => fb ρ st
    | none => .stuck) h fun d ρ st fz ph H1 x s e rx q => by
      cases e1 : truP d with
      | none => rw [e1] at q; exact q.elim
      | some k =>
        rw [e1] at q
        refine ⟨k, by rw [hX.K]; exact tru_rep s rx e1, ?_⟩
        cases k with
        | true => exact RP.here (d := d) q s rx
        | false => exact ⟨fz, ph, ρ, st, s, e, q⟩
theorem se_not (ha : SE c cm sc a fa) : SE c cm sc (.UnaryOp .Not a pos) (shNot fa) := fun X W hX tk =>
  peI (pe_notT (ha X W hX tk)) fun σ H Q h => tE.step (k := fun d _ st => match truP d with
    | some k => .ok (.bl (!k)) st
    | none => .stuck) h fun d ρ st fz ph H1 x s e rx q => by
      cases e1 : truP d with
      | none => rw [e1] at q; exact q.elim
      | some k =>
        rw [e1] at q
        exact ⟨k, by rw [hX.K]; exact tru_rep s rx e1, RP.here (d := .bl (!k)) q s (by simp only [Rep])⟩
/-- a if c else b -/
def shIf (t f g : Sh) : Sh := fun ρ st => (t ρ st).bind fun d st => match d with
  | .bl true => f ρ st
  | .bl false => g ρ st
  | _ => .stuck
theorem se_ifExp {t : PySem.Expr} {ft : Sh} (ht : ST c cm sc t ft) (ha : SE c cm sc a fa) (hb : SE c cm sc b fb) : SE c cm sc (.IfExp t a b pos) (shIf ft fa fb) := fun X W hX tk =>
  peI (pe_ifExp (ht X W hX tk) (ha X W hX tk) (hb X W hX tk)) fun σ H Q h => tE.step (k := fun d ρ st => match d with
    | .bl true => fa ρ st
    | .bl false => fb ρ st
    | _ => .stuck) h fun d ρ st fz ph H1 x s e rx q => by
      cases d <;> try exact q.elim
      rename_i k
      refine ⟨k, rep_bl rx, ?_⟩
      cases k with
      | true => exact ⟨fz, ph, ρ, st, s, e, q⟩
      | false => exact ⟨fz, ph, ρ, st, s, e, q⟩
end

/-! ### argument lists -/
def evs : List Sh → Env → Store → R (List D)
  | [], _, st => .ok [] st
  | f :: fs, ρ, st => (f ρ st).bind fun d st => (evs fs ρ st).bind fun ds st => .ok (d :: ds) st
section
variable {T : Pa} {fz H : Hp} {ph : List Addr} {st : Store} {σ : L2.St} {W : WX}
def RPs (T : Pa) (W : WX) (fz : Hp) (ph : List Addr) (σ : L2.St) (H : Hp) (Q : List V → Hp → Prop) (r : R (List D)) : Prop :=
  match r with
  | .ok ds st => ∀ fz' ph' H' us, Ext fz ph H fz' ph' H' → SOk T fz' ph' st H' → Reps T.K T.L fz' ph' ds us → Q us H'
  | .ex c fs st => ∀ fz' ph' H' cls d, Ext fz ph H fz' ph' H' → SOk T fz' ph' st H' → XOk T fz' ph' H' c fs cls d → W cls d σ H'
  | .stuck => False
def tA (T : Pa) (W : WX) (fs : List Sh) : TA := fun σ H Q => ∃ fz ph ρ st, SOk T fz ph st H ∧ EOk T fz ph ρ σ ∧ RPs T W fz ph σ H Q (evs fs ρ st)
theorem RPs.ext {fz' H' : Hp} {ph' : List Addr} {Q : List V → Hp → Prop} {r : R (List D)} (h : RPs T W fz ph σ H Q r) (e : Ext fz ph H fz' ph' H') : RPs T W fz' ph' σ H' Q r := by
  cases r with
  | ok d st => exact fun f p H' u x s q => h f p H' u (e.trans x) s q
  | ex c fs st => exact fun f p H' cls d x s q => h f p H' cls d (e.trans x) s q
  | stuck => exact h
/-- the first of several -/
theorem RP.stepL {r : R D} {k : D → Store → R (List D)} {Q : List V → Hp → Prop} {Q' : VK} (h : RPs T W fz ph σ H Q (r.bind k))
    (hk : ∀ d st fz' ph' H' u, Ext fz ph H fz' ph' H' → SOk T fz' ph' st H' → Rep T.K T.L fz' ph' d u → RPs T W fz' ph' σ H' Q (k d st) → Q' u H') : RP T W fz ph σ H Q' r := by
  cases r with
  | ok d st' => exact fun f p H' u x s' r' => hk d st' f p H' u x s' r' (RPs.ext (r := k d st') h x)
  | ex c fs st' => exact h
  | stuck => exact h
/-- a list of values, then more -/
theorem RPs.step {r : R (List D)} {k : List D → Store → R D} {Q : VK} {Q' : List V → Hp → Prop} (h : RP T W fz ph σ H Q (r.bind k))
    (hk : ∀ ds st fz' ph' H' us, Ext fz ph H fz' ph' H' → SOk T fz' ph' st H' → Reps T.K T.L fz' ph' ds us → RP T W fz' ph' σ H' Q (k ds st) → Q' us H') : RPs T W fz ph σ H Q' r := by
  cases r with
  | ok d st' => exact fun f p H' u x s' r' => hk d st' f p H' u x s' r' (RP.ext (r := k d st') h x)
  | ex c fs st' => exact h
  | stuck => exact h
theorem RPs.stepL {r : R (List D)} {k : List D → Store → R (List D)} {Q : List V → Hp → Prop} {Q' : List V → Hp → Prop} (h : RPs T W fz ph σ H Q (r.bind k))
    (hk : ∀ ds st fz' ph' H' us, Ext fz ph H fz' ph' H' → SOk T fz' ph' st H' → Reps T.K T.L fz' ph' ds us → RPs T W fz' ph' σ H' Q (k ds st) → Q' us H') : RPs T W fz ph σ H Q' r := by
  cases r with
  | ok d st' => exact fun f p H' u x s' r' => hk d st' f p H' u x s' r' (RPs.ext (r := k d st') h x)
  | ex c fs st' => exact h
  | stuck => exact h
end
def notStar : PySem.Expr → Bool
  | .Starred _ _ => false
  | _ => true
theorem star_each {e : PySem.Expr} {es : List PySem.Expr} {env : PySem.Env} (h : notStar e = true) : starEach (e :: es) env = (false, eval e env) :: starEach es env := by
  cases e <;> first | rfl | exact absurd h Bool.false_ne_true
def notStars (es : List PySem.Expr) : Bool := es.all notStar
theorem star_none {env : PySem.Env} : ∀ {es : List PySem.Expr}, notStars es = true → ∀ pos, (backTo pos (starEach es env)).any (·.1) = false
  | [], _, _ => rfl
  | e :: es, h, pos => by
    have h' : notStar e = true ∧ notStars es = true := by simpa [notStars] using h
    rw [star_each h'.1]
    have ih := star_none (env := env) (es := es) h'.2 pos
    show (false || (backTo pos (starEach es env)).any (·.1)) = false
    rw [ih]; rfl
def SA (c : Cd) (cm : Bool) (sc : Scope) (es : List PySem.Expr) (fs : List Sh) : Prop := notStars es = true ∧ ∀ X W, Ctx c cm sc X → Takes X W → PA X es (tA c.T W fs)
section
variable {c : Cd} {cm : Bool} {sc : Scope} {a b : PySem.Expr} {es : List PySem.Expr} {fa fb fk : Sh} {fs : List Sh} {pos : Pos}
theorem sa_nil : SA c cm sc [] [] := ⟨rfl, fun X W hX tk => paI pa_nil fun σ H Q h => by
  obtain ⟨fz, ph, ρ, st, s, e, h⟩ := h
  have h : RPs c.T W fz ph σ H Q (.ok [] st) := h
  exact h fz ph H [] (.refl _ _ _) s (by simp only [Reps])⟩
theorem sa_cons (ha : SE c cm sc a fa) (hs : SA c cm sc es fs) (hn : notStar a = true) : SA c cm sc (a :: es) (fa :: fs) := ⟨by simp only [notStars, List.all_cons, hn, Bool.true_and]; exact hs.1, fun X W hX tk =>
  paI (pa_cons (ha X W hX tk) (hs.2 X W hX tk) (star_each hn)) fun σ H Q h => by
    obtain ⟨fz, ph, ρ, st, s, e, h⟩ := h
    have h : RPs c.T W fz ph σ H Q ((fa ρ st).bind fun d st => (evs fs ρ st).bind fun ds st => .ok (d :: ds) st) := h
    exact ⟨fz, ph, ρ, st, s, e, RP.stepL h fun d st1 fz1 ph1 H1 u x1 s1 r1 h1 =>
      ⟨fz1, ph1, ρ, st1, s1, e.ext x1, RPs.stepL h1 fun ds st2 fz2 ph2 H2 us x2 s2 r2 h2 =>
        RPs.here' h2 s2 (by simp only [Reps]; exact ⟨u, us, rfl, Rep.more x2.more d u r1, r2⟩)⟩⟩⟩
where RPs.here' {T : Pa} {fz H : Hp} {ph : List Addr} {st : Store} {σ : L2.St} {W : WX} {Q : List V → Hp → Prop} {ds : List D} {us : List V} (h : RPs T W fz ph σ H Q (.ok ds st)) (s : SOk T fz ph st H) (r : Reps T.K T.L fz ph ds us) : Q us H := h fz ph H us (.refl _ _ _) s r
/-- a tuple, a list of written items -/
def shTup (fs : List Sh) : Sh := fun ρ st => (evs fs ρ st).bind fun ds st => if ds.length ≤ sizeLine then .ok (.tup ds) st else .stuck
def shLst (fs : List Sh) : Sh := fun ρ st => (evs fs ρ st).bind fun ds st => if ds.length ≤ sizeLine then .ok (.lst ds) st else .stuck
theorem tA.step {T : Pa} {W : WX} {fs : List Sh} {k : List D → Sh} {σ : L2.St} {H : Hp} {Q : VK} {Q' : List V → Hp → Prop} (h : tE T W (fun ρ st => (evs fs ρ st).bind fun ds st => k ds ρ st) σ H Q)
    (hk : ∀ ds ρ st fz ph H' us, SOk T fz ph st H' → EOk T fz ph ρ σ → Reps T.K T.L fz ph ds us → RP T W fz ph σ H' Q (k ds ρ st) → Q' us H') : tA T W fs σ H Q' := by
  obtain ⟨fz, ph, ρ, st, s, e, h⟩ := h
  exact ⟨fz, ph, ρ, st, s, e, RPs.step (k := fun ds st => k ds ρ st) h fun ds st1 fz1 ph1 H1 us x1 s1 r1 h1 => hk ds ρ st1 fz1 ph1 H1 us s1 (e.ext x1) r1 h1⟩
theorem se_tup {x1} (hs : SA c cm sc es fs) : SE c cm sc (.Tuple es x1 pos) (shTup fs) := fun X W hX tk =>
  peI (pe_tup (hs.2 X W hX tk)) fun σ H Q h => tA.step (k := fun ds ρ st => if ds.length ≤ sizeLine then .ok (.tup ds) st else .stuck) h fun ds ρ st fz ph H1 us s e r q => by
    by_cases z : ds.length ≤ sizeLine
    · rw [if_pos z] at q
      exact ⟨by rw [← r.length]; exact z, fun p hp => q.new s hp (fun ps z => by cases z) (new_tup s hp r)⟩
    · rw [if_neg z] at q; exact q.elim
theorem se_lst (hs : SA c cm sc es fs) : SE c cm sc (.List es pos) (shLst fs) := fun X W hX tk =>
  peI (pe_lst (hs.2 X W hX tk)) fun σ H Q h => tA.step (k := fun ds ρ st => if ds.length ≤ sizeLine then .ok (.lst ds) st else .stuck) h fun ds ρ st fz ph H1 us s e r q => by
    by_cases z : ds.length ≤ sizeLine
    · rw [if_pos z] at q
      exact ⟨by rw [← r.length]; exact z, fun p hp => q.new s hp (fun ps z => by cases z) (new_lst s hp r)⟩
    · rw [if_neg z] at q; exact q.elim
end
end DV

namespace DV
open PySem PySem.Spec PyProof.Rows L2

/-! ### subscripts -/
def okO (o : Option D) (st : Store) : R D := match o with
  | some d => .ok d st
  | none => .stuck
/-- a[b]; kd: the dicts of the module -/
def ixP (kd : Str → D → Option D) (d e : D) (st : Store) : R D := match d, e with
  | .lst xs, .int i => okO (atI xs i) st
  | .tup xs, .int i => okO (atI xs i) st
  | .str z, .int i => if z.length ≤ sizeLine then okO ((atI z.cps.toList i).map fun c => .str ⟨#[c]⟩) st else .stuck
  | .ref l, .int i => match st[l]? with
    | some (.lst xs) => okO (atI xs i) st
    | _ => .stuck
  | .dK kvs, e => match keyD e with
    | some k => okO (valD kvs k) st
    | none => .stuck
  | .glo x, e => okO (kd x e) st
  | _, _ => .stuck
section
variable {X : Cx} {T : Pa} {fz H : Hp} {ph : List Addr} {st : Store} {σ : L2.St} {W : WX} {Q : VK}
def rIxG : R2 := fun x y H Q => ∃ a v, x = .ref a ∧ DGet H a y (some v) ∧ Q v H
theorem ix_dget (hu : X.A.units + 1 < cLine) : IxR X rIxG := by
  intro value slice pins s σ H x y v u Q I rx ry h hs
  obtain ⟨a, z, rfl, g, q⟩ := h
  obtain rfl : v = Value.ref a := rx
  exact tail_any (dict_typeIs I g) PySem.F.slot_dict_getitem.lookup (d_getItem hu I g ry fun w' s3 I3 rw' => ⟨z, H, I3, rw', q⟩) hs
/-- what is written about the module's dicts -/
def KdOk (c : Cd) (kd : Str → D → Option D) : Prop := ∀ x d e, kd x d = some e → ∃ z v, d = .str z ∧ Everywhere c e v ∧ KDct c.T.K c.w (He.ga c.T.K x) z v
def rIxA (K : PySem.W.Frag) (w : World) : R2 := fun x y H Q => rIx K x y H Q ∨ rIxG x y H Q ∨ rIxD K w x y H Q
theorem ix_all (hu : X.A.units + 1 < cLine) : IxR X (rIxA X.K X.w) := ix_seq.or ((ix_dget hu).or ix_kdict)
theorem reps_atI {xs : List D} {vs : List V} {i : Int} {d : D} (r : Reps T.K T.L fz ph xs vs) (h : atI xs i = some d) : ∃ u, atI vs i = some u ∧ Rep T.K T.L fz ph d u := by
  unfold atI at h ⊢
  rw [← r.length]
  cases e : ixN xs.length i with
  | none => rw [e] at h; cases h
  | some j =>
    rw [e] at h
    exact Reps.get (i := j) r h
theorem rep_ref {l : Nat} {u : V} (h : Rep T.K T.L fz ph (.ref l) u) : ∃ a, u = .ref a ∧ ph[l]? = some a := by
  simpa only [Rep] using h
theorem rep_glo {x : Str} {u : V} (h : Rep T.K T.L fz ph (.glo x) u) : u = .ref (He.ga T.K x) := by
  simpa only [Rep] using h
theorem okO_ok {o : Option D} (h : RP T W fz ph σ H Q (okO o st)) : ∃ d, o = some d ∧ RP T W fz ph σ H Q (.ok d st) := by
  cases o with
  | none => exact h.elim
  | some d => exact ⟨d, rfl, h⟩
end
theorem keep_ix {c : Cd} {kd : Str → D → Option D} (hk : KdOk c kd) : Keep2 c.T (rIxA c.T.K c.w) (ixP kd) := by
  intro W fz H ph σ st d e x y Q s rx ry h
  cases d <;> try exact absurd h id
  case tup xs =>
    cases e <;> try exact absurd h id
    rename_i i
    rw [rep_int ry]
    obtain ⟨z, e1, h⟩ := okO_ok (o := atI xs i) h
    obtain ⟨a, vs, e2, ha, ra⟩ := rep_tup rx
    obtain ⟨u, hu, ru⟩ := reps_atI ra e1
    exact .inl (.inr (.inl ⟨a, vs, i, u, e2, rfl, s.sqT ha, hu, h.here s ru⟩))
  case lst xs =>
    cases e <;> try exact absurd h id
    rename_i i
    rw [rep_int ry]
    obtain ⟨z, e1, h⟩ := okO_ok (o := atI xs i) h
    obtain ⟨a, vs, e2, ha, ra⟩ := rep_lst rx
    obtain ⟨u, hu, ru⟩ := reps_atI ra e1
    exact .inl (.inl ⟨a, vs, i, u, e2, rfl, .inl (s.rd ha), hu, h.here s ru⟩)
  case str z =>
    cases e <;> try exact absurd h id
    rename_i i
    rw [rep_int ry, rep_str rx]
    have h : RP c.T W fz ph σ H Q (if z.length ≤ sizeLine then okO ((atI z.cps.toList i).map fun c => .str ⟨#[c]⟩) st else .stuck) := h
    by_cases cz : z.length ≤ sizeLine
    · rw [if_pos cz] at h
      obtain ⟨w, e1, h⟩ := okO_ok h
      obtain ⟨ch, e2, e3⟩ := Option.map_eq_some_iff.mp e1
      subst e3
      exact .inl (.inr (.inr ⟨z, i, ch, rfl, rfl, cz, e2, h.here s (by simp only [Rep])⟩))
    · rw [if_neg cz] at h; exact h.elim
  case ref l =>
    cases e <;> try exact absurd h id
    rename_i i
    rw [rep_int ry]
    obtain ⟨a, e2, hp⟩ := rep_ref rx
    have h : RP c.T W fz ph σ H Q (match st[l]? with
      | some (.lst xs) => okO (atI xs i) st
      | _ => .stuck) := h
    cases e1 : st[l]? with
    | none => rw [e1] at h; exact h.elim
    | some o =>
      rw [e1] at h
      cases o <;> try exact h.elim
      rename_i xs
      obtain ⟨z, e3, h⟩ := okO_ok (o := atI xs i) h
      obtain ⟨vs, hv, rv⟩ := s.mem l _ a e1 hp
      obtain ⟨u, hu, ru⟩ := reps_atI rv e3
      exact .inl (.inl ⟨a, vs, i, u, e2, rfl, .inl (.inl hv), hu, h.here s ru⟩)
  case dK kvs =>
    have h : RP c.T W fz ph σ H Q (match keyD e with
      | some k => okO (valD kvs k) st
      | none => .stuck) := h
    cases e1 : keyD e with
    | none => rw [e1] at h; exact h.elim
    | some k =>
      rw [e1] at h
      obtain ⟨z, e3, h⟩ := okO_ok h
      obtain ⟨a, vs, e2, ha, ra⟩ := rep_dK rx
      obtain ⟨u, hu, ru⟩ := repK_val ra e3
      exact .inr (.inl ⟨a, u, e2, .inl ⟨vs, k, s.rdK ha, key_rep e1 ry, hu.symm⟩, h.here s ru⟩)
  case glo n =>
    have h : RP c.T W fz ph σ H Q (okO (kd n e) st) := h
    obtain ⟨z, e3, h'⟩ := okO_ok h
    obtain ⟨t, v, e4, ev, kx⟩ := hk n e z e3
    subst e4
    rw [rep_str ry]
    exact .inr (.inr ⟨_, t, v, rep_glo rx, rfl, kx, h'.here s (ev _ _)⟩)
def plainIxB : PySem.Expr → Bool
  | .Name _ _ => true
  | .Constant _ _ _ => true
  | .BinOp _ _ _ _ => true
  | .UnaryOp _ _ _ => true
  | .Call _ _ _ _ => true
  | .Subscript _ _ _ => true
  | .Attribute _ _ _ => true
  | _ => false
theorem plainIx_ok {b : PySem.Expr} (h : plainIxB b = true) : PlainIx b := by
  cases b <;> first | exact (fun _ _ => rfl) | exact absurd h Bool.false_ne_true
def shIx (kd : Str → D → Option D) (f g : Sh) : Sh := fun ρ st => (f ρ st).bind fun d st => (g ρ st).bind fun e st => ixP kd d e st
section
variable {c : Cd} {cm : Bool} {sc : Scope} {a b : PySem.Expr} {es : List PySem.Expr} {fa fb fk : Sh} {fs : List Sh} {pos p2 : Pos}
theorem se_ix {kd : Str → D → Option D} (hk : KdOk c kd) (ha : SE c cm sc a fa) (hb : SE c cm sc b fb) (hs : plainIxB b = true) : SE c cm sc (.Subscript a b pos) (shIx kd fa fb) := fun X W hX tk =>
  peI (pe_ix (ix_all (by have := hX.un; omega)) (ha X W hX tk) (hb X W hX tk) (plainIx_ok hs)) fun σ H Q h => by
    rw [hX.K, hX.w]
    exact two_step (keep_ix hk) h
end

/-! ### slices -/
def cutD (xs : List D) (lo hi : Option Int) : List D := (xs.drop (HT.sIx xs.length 0 lo)).take (HT.sIx xs.length xs.length hi - HT.sIx xs.length 0 lo)
def slP (d : D) (lo hi : Option Int) (st : Store) : R D := match d with
  | .lst xs => .ok (.lst (cutD xs lo hi)) st
  | .tup xs => .ok (.tup (cutD xs lo hi)) st
  | .str z => if z.length ≤ sizeLine then .ok (.str (cutS z lo hi)) st else .stuck
  | _ => .stuck
def partR (o : Option Sh) : Env → Store → R (Option Int) := match o with
  | none => fun _ st => .ok none st
  | some f => fun ρ st => (f ρ st).bind fun d st => match d with
    | .int i => .ok (some i) st
    | _ => .stuck
def rSlAll (K : PySem.W.Frag) : V → Option Int → Option Int → Hp → VK → Prop := fun x lo hi H Q => rSlA K x lo hi H Q ∨ rSlL K x lo hi H Q ∨ rSlS x lo hi H Q
theorem sl_all {X : Cx} : SlR X (rSlAll X.K) := sl_tupA.or (sl_list.or sl_str)
section
variable {T : Pa} {fz H : Hp} {ph : List Addr} {st : Store} {σ : L2.St} {W : WX} {Q : VK}
theorem Reps.cut {xs : List D} {vs : List V} (r : Reps T.K T.L fz ph xs vs) (lo hi : Option Int) : Reps T.K T.L fz ph (cutD xs lo hi) (cutV vs lo hi) := by
  unfold cutD cutV
  rw [← r.length]
  exact (r.drop _).take _
theorem cut_all {xs : List D} {lo hi : Option Int} (h : HT.sIx xs.length 0 lo = 0 ∧ HT.sIx xs.length xs.length hi = xs.length) : cutD xs lo hi = xs := by
  unfold cutD
  rw [h.1, h.2]
  simp
theorem keep_sl (d : D) (x : V) (lo hi : Option Int) (s : SOk T fz ph st H) (rx : Rep T.K T.L fz ph d x) (h : RP T W fz ph σ H Q (slP d lo hi st)) : rSlAll T.K x lo hi H Q := by
  cases d <;> try exact absurd h id
  case tup xs =>
    obtain ⟨a, vs, e2, ha, ra⟩ := rep_tup rx
    have h : RP T W fz ph σ H Q (.ok (.tup (cutD xs lo hi)) st) := h
    refine .inl ⟨a, vs, e2, s.sqT ha, fun z => ?_, fun _ p hp => ?_⟩
    · rw [← ra.length] at z
      rw [cut_all z] at h
      exact h.here s (by rw [← e2]; exact rx)
    · exact h.new s hp (fun ps q => by cases q) (new_tup s hp (ra.cut lo hi))
  case lst xs =>
    obtain ⟨a, vs, e2, ha, ra⟩ := rep_lst rx
    have h : RP T W fz ph σ H Q (.ok (.lst (cutD xs lo hi)) st) := h
    exact .inr (.inl ⟨a, vs, e2, .inl (s.rd ha), fun p hp => h.new s hp (fun ps q => by cases q) (new_lst s hp (ra.cut lo hi))⟩)
  case str z =>
    have h : RP T W fz ph σ H Q (if z.length ≤ sizeLine then .ok (.str (cutS z lo hi)) st else .stuck) := h
    by_cases c : z.length ≤ sizeLine
    · rw [if_pos c] at h
      exact .inr (.inr ⟨z, rep_str rx, c, h.here s (by simp only [Rep])⟩)
    · rw [if_neg c] at h; exact h.elim
def shSl (f : Sh) (lo hi : Option Sh) : Sh := fun ρ st => (f ρ st).bind fun d st => (partR lo ρ st).bind fun l st => (partR hi ρ st).bind fun u st => slP d l u st
/-- a part of a slice, then more -/
theorem part_step {o : Option Sh} {tp : TO} {k : Option Int → Sh} {ρ : Env} (hp : ∀ f, o = some f → tp = tPart (tE T W f)) (hn : o = none → tp = tNoPart) (s : SOk T fz ph st H) (e : EOk T fz ph ρ σ)
    (h : RP T W fz ph σ H Q ((partR o ρ st).bind fun i st => k i ρ st)) {Q' : Option Int → Hp → Prop}
    (hk : ∀ i st fz' ph' H', Ext fz ph H fz' ph' H' → SOk T fz' ph' st H' → RP T W fz' ph' σ H' Q (k i ρ st) → Q' i H') : tp σ H Q' := by
  cases o with
  | none =>
    rw [hn rfl]
    exact hk none st fz ph H (.refl _ _ _) s h
  | some f =>
    rw [hp f rfl]
    have h : RP T W fz ph σ H Q (((f ρ st).bind fun d st => match d with
      | .int i => .ok (some i) st
      | _ => .stuck).bind fun i st => k i ρ st) := h
    refine ⟨fz, ph, ρ, st, s, e, ?_⟩
    cases q : f ρ st with
    | stuck => rw [q] at h; exact h
    | ex c fs st' => rw [q] at h; exact h
    | ok d st' =>
      rw [q] at h
      cases d <;> try exact h.elim
      rename_i i
      have h : RP T W fz ph σ H Q (k (some i) ρ st') := h
      exact fun f p H' u x s' r' => ⟨i, rep_int r', hk (some i) st' f p H' x s' (h.ext x)⟩
end
/-- a part: there or not -/
def SO (c : Cd) (cm : Bool) (sc : Scope) : Option PySem.Expr → Option Sh → Prop
  | none, none => True
  | some e, some f => SE c cm sc e f
  | _, _ => False
def toP (T : Pa) (W : WX) : Option Sh → TO
  | none => tNoPart
  | some f => tPart (tE T W f)
section
variable {c : Cd} {cm : Bool} {sc : Scope} {a b : PySem.Expr} {es : List PySem.Expr} {fa fb fk : Sh} {fs : List Sh} {pos p2 : Pos}
theorem po_so {X : Cx} {W : WX} (hX : Ctx c cm sc X) (tk : Takes X W) : ∀ {o : Option PySem.Expr} {f : Option Sh}, SO c cm sc o f → PO X o (toP c.T W f)
  | none, none, _ => po_none
  | some e, some f, h => po_some (h X W hX tk)
  | none, some _, h => h.elim
  | some _, none, h => h.elim
theorem se_sl {lo hi : Option PySem.Expr} {fl fh : Option Sh} (ha : SE c cm sc a fa) (hl : SO c cm sc lo fl) (hh : SO c cm sc hi fh) : SE c cm sc (.Subscript a (.Slice lo hi none p2) pos) (shSl fa fl fh) := fun X W hX tk =>
  peI (pe_slice sl_all (ha X W hX tk) (po_so hX tk hl) (po_so hX tk hh)) fun σ H Q h =>
    tE.step (k := fun d ρ st => (partR fl ρ st).bind fun l st => (partR fh ρ st).bind fun u st => slP d l u st) h fun d ρ st fz ph H1 x s e rx q =>
      part_step (o := fl) (k := fun l ρ st => (partR fh ρ st).bind fun u st => slP d l u st) (fun f e => by subst e; rfl) (fun e => by subst e; rfl) s e q fun l st1 fz1 ph1 H2 x1 s1 q1 =>
        part_step (o := fh) (k := fun u ρ st => slP d l u st) (fun f e => by subst e; rfl) (fun e => by subst e; rfl) s1 (e.ext x1) q1 fun u st2 fz2 ph2 H3 x2 s2 q2 => by
          rw [hX.K]
          exact keep_sl d x l u s2 (Rep.more (x1.trans x2).more d x rx) q2
end
end DV

namespace DV
open PySem PySem.Spec PyProof.Rows L2

/-! ### calls of built-ins -/
def shCB (p : List D → Store → R D) (fs : List Sh) : Sh := fun ρ st => (evs fs ρ st).bind fun ds st => p ds st
theorem callR_imp {X : Cx} {f : Value} {r r' : List V → Hp → VK → Prop} (h : CallR X f r) (i : ∀ xs H Q, r' xs H Q → r xs H Q) : CallR X f r' := fun pins s σ H xs us Q I rx q => h pins s σ H xs us Q I rx (i _ _ _ q)
section
variable {c : Cd} {cm : Bool} {sc : Scope} {a b : PySem.Expr} {es : List PySem.Expr} {fa fb fk : Sh} {fs : List Sh} {pos p2 : Pos}
structure BiOk (c : Cd) (cm : Bool) (sc : Scope) (f : Value) (p : List D → Store → R D) : Prop where
  of : ∃ r : List V → Hp → VK → Prop, (∀ X, Ctx c cm sc X → CallR X f r) ∧ KeepN c.T r p
theorem se_callB {x : Str} {id : String} {p : List D → Store → R D} {pp : Pos} (hb : BiOk c cm sc (.builtin id) p) (hg : glB sc x = true) (hm : c.mg x = none) (hv : bootBuiltins x = some (.builtin id)) (ha : SA c cm sc (a :: es) fs) (hn : x ≠ "__name__") (hd : (x == ("__debug__" : Str)) = false) :
    SE c cm sc (.Call (.Name x pp) (a :: es) [] pos) (shCB p fs) := fun X W hX tk => by
  obtain ⟨r, h1, h2⟩ := hb.of
  have hst : notStar a = true ∧ notStars es = true := by have := ha.1; simpa [notStars] using this
  refine peI (pe_callB (h1 X hX) (glB_ok hX hg) (by rw [hX.mg]; exact hm) hv (ha.2 X W hX tk) hn hd (star_each hst.1) (star_none hst.2 _)) fun σ H Q h => ?_
  exact tA.step (k := fun ds _ st => p ds st) h fun ds ρ st fz ph H1 us s e rr q => h2 W fz H1 ph σ st ds us Q s rr q
theorem se_callTy {x : Str} {id : String} {p : List D → Store → R D} {pp : Pos} (hb : BiOk c cm sc (.type id) p) (hg : glB sc x = true) (hm : c.mg x = none) (hv : bootBuiltins x = some (.type id)) (ha : SA c cm sc (a :: es) fs) (hn : x ≠ "__name__") (hd : (x == ("__debug__" : Str)) = false) :
    SE c cm sc (.Call (.Name x pp) (a :: es) [] pos) (shCB p fs) := fun X W hX tk => by
  obtain ⟨r, h1, h2⟩ := hb.of
  have hst : notStar a = true ∧ notStars es = true := by have := ha.1; simpa [notStars] using this
  refine peI (pe_callTy (h1 X hX) (glB_ok hX hg) (by rw [hX.mg]; exact hm) hv (ha.2 X W hX tk) hn hd (star_each hst.1) (star_none hst.2 _)) fun σ H Q h => ?_
  exact tA.step (k := fun ds _ st => p ds st) h fun ds ρ st fz ph H1 us s e rr q => h2 W fz H1 ph σ st ds us Q s rr q
end

/-! ### len -/
def lenP (ds : List D) (st : Store) : R D := match ds with
  | [.str x] => if x.length ≤ sizeLine then .ok (.int x.length) st else .stuck
  | [.tup xs] => .ok (.int xs.length) st
  | [.lst xs] => .ok (.int xs.length) st
  | [.ref l] => (match st[l]? with
    | some (.lst xs) => .ok (.int xs.length) st
    | _ => .stuck)
  | _ => .stuck
section
variable {c : Cd} {cm : Bool} {sc : Scope}
theorem int_ok {T : Pa} {fz H : Hp} {ph : List Addr} {st : Store} {σ : L2.St} {W : WX} {Q : VK} {i : Int} (h : RP T W fz ph σ H Q (.ok (.int i) st)) (s : SOk T fz ph st H) : Q (.int i) H := h.here s (by simp only [Rep])
theorem bl_ok {T : Pa} {fz H : Hp} {ph : List Addr} {st : Store} {σ : L2.St} {W : WX} {Q : VK} {i : Bool} (h : RP T W fz ph σ H Q (.ok (.bl i) st)) (s : SOk T fz ph st H) : Q (.bl i) H := h.here s (by simp only [Rep])
theorem str_ok {T : Pa} {fz H : Hp} {ph : List Addr} {st : Store} {σ : L2.St} {W : WX} {Q : VK} {i : Str} (h : RP T W fz ph σ H Q (.ok (.str i) st)) (s : SOk T fz ph st H) : Q (.str i) H := h.here s (by simp only [Rep])
theorem bi_len : BiOk c cm sc (.builtin "len") lenP := ⟨_, fun X hX => by have := @call_len X; rw [hX.K] at this; exact this, by
  intro W fz H ph σ st ds xs Q s r h
  unfold lenP at h
  split at h
  · rename_i x
    obtain ⟨u, rfl, r1⟩ := reps1 r
    rw [rep_str r1]
    have h : RP c.T W fz ph σ H Q (if x.length ≤ sizeLine then .ok (.int x.length) st else .stuck) := h
    by_cases z : x.length ≤ sizeLine
    · rw [if_pos z] at h
      exact ⟨_, _, rfl, ⟨z, rfl⟩, int_ok h s⟩
    · rw [if_neg z] at h; exact h.elim
  · rename_i ys
    obtain ⟨u, rfl, r1⟩ := reps1 r
    obtain ⟨a, vs, e1, ha, ra⟩ := rep_tup r1
    subst e1
    exact ⟨_, _, rfl, .inr ⟨vs, s.sqT ha, ra.length⟩, int_ok h s⟩
  · rename_i ys
    obtain ⟨u, rfl, r1⟩ := reps1 r
    obtain ⟨a, vs, e1, ha, ra⟩ := rep_lst r1
    subst e1
    exact ⟨_, _, rfl, .inl ⟨vs, .inl (s.rd ha), ra.length⟩, int_ok h s⟩
  · rename_i l
    obtain ⟨u, rfl, r1⟩ := reps1 r
    obtain ⟨a, e1, hp⟩ := rep_ref r1
    subst e1
    have h : RP c.T W fz ph σ H Q (match st[l]? with
      | some (.lst xs) => .ok (.int xs.length) st
      | _ => .stuck) := h
    cases e1 : st[l]? with
    | none => rw [e1] at h; exact h.elim
    | some o =>
      rw [e1] at h
      cases o <;> try exact h.elim
      rename_i ys
      obtain ⟨vs, hv, rv⟩ := s.mem l _ a e1 hp
      exact ⟨_, _, rfl, .inl ⟨vs, .inl (.inl hv), rv.length⟩, int_ok h s⟩
  · exact h.elim⟩
end

/-! ### isinstance -/
inductive Tn where
  | ty (n : String) | own (c : Str)
  deriving DecidableEq
def Tn.val (K : PySem.W.Frag) : Tn → Value
  | .ty n => .type n
  | .own c => .ref (He.ga K c)
def D.tn (st : Store) : D → Option Tn
  | .non => some (.ty "NoneType")
  | .bl _ => some (.ty "bool")
  | .int _ => some (.ty "int")
  | .str _ => some (.ty "str")
  | .tup _ => some (.ty "tuple")
  | .lst _ => some (.ty "list")
  | .dK _ => some (.ty "dict")
  | .ins c _ => some (.own c)
  | .ref l => (match st[l]? with
    | some (.lst _) => some (.ty "list")
    | _ => none)
  | _ => none
def D.asTn : D → Option Tn
  | .ty n => some (.ty n)
  | .glo c => some (.own c)
  | _ => none
/-- the answers, by the two types -/
abbrev Kit := List ((Tn × Tn) × Bool)
def isiP (kit : Kit) (ds : List D) (st : Store) : R D := match ds with
  | [d, e] => (match d.tn st, e.asTn with
    | some t, some u => (match kit.lookup (t, u) with
      | some b => .ok (.bl b) st
      | none => .stuck)
    | _, _ => .stuck)
  | _ => .stuck
/-- an own class whose instances may be asked -/
structure InsTy (K : PySem.W.Frag) (C : Addr) : Prop where
  cl : Cls K C
  ha : PySem.W.findIn K (.ref C) "__class__" = some (some (.builtin "object.__class__"))
  hn : PySem.W.specialIn K (.builtin "object.__class__") "__get__" = some (some (.builtin "getset_descriptor.__get__"))
  htk : PySem.W.takesIn K (.builtin "object.__class__") = some true
  hm : PySem.W.mroIn K C (.type "object") = some true
def KitOk (c : Cd) (kit : Kit) : Prop := ∀ t u b, kit.lookup (t, u) = some b → PySem.W.kitOne c.T.K (t.val c.T.K) (u.val c.T.K) = some b ∧ (∀ n, t = .own n → InsTy c.T.K (He.ga c.T.K n))
section
variable {T : Pa} {fz H : Hp} {ph : List Addr} {st : Store} {σ : L2.St} {W : WX} {Q : VK}
theorem rep_ins {c : Str} {fs : List (Str × D)} {u : V} (h : Rep T.K T.L fz ph (.ins c fs) u) : ∃ a dx vs, u = .ref a ∧ fz a = some (.ins (He.ga T.K c) dx vs) ∧ RepF T.K T.L fz ph fs vs := by
  simpa only [Rep] using h
theorem rep_ty {n : String} {u : V} (h : Rep T.K T.L fz ph (.ty n) u) : u = .ty n := by simpa only [Rep] using h
theorem tn_ok {d : D} {x : V} {t : Tn} (s : SOk T fz ph st H) (r : Rep T.K T.L fz ph d x) (e : d.tn st = some t) (hi : ∀ n, t = .own n → InsTy T.K (He.ga T.K n)) : TyX T.K H x (t.val T.K) := by
  cases d with
  | non => cases (Option.some.inj e); rw [rep_non r]; exact .base .non
  | bl b => cases (Option.some.inj e); rw [rep_bl r]; exact .base (.bl _)
  | int i => cases (Option.some.inj e); rw [rep_int r]; exact .base (.int _)
  | str y => cases (Option.some.inj e); rw [rep_str r]; exact .base (.str _)
  | tup xs =>
    cases (Option.some.inj e)
    obtain ⟨a, vs, e1, ha, ra⟩ := rep_tup r
    subst e1
    rcases s.sqT ha with (h | ⟨o, h⟩) | ⟨o, its, n, h1, h2, _⟩
    · exact .base (.tup h)
    · exact .fTuple h
    · exact .kTuple h1 h2
  | lst xs =>
    cases (Option.some.inj e)
    obtain ⟨a, vs, e1, ha, ra⟩ := rep_lst r
    subst e1
    rcases s.rd ha with h | ⟨o, h⟩
    · exact .base (.lst h)
    · exact .base (.frz h)
  | dK kvs =>
    cases (Option.some.inj e)
    obtain ⟨a, vs, e1, ha, ra⟩ := rep_dK r
    subst e1
    rcases s.rdK ha with h | ⟨o, h⟩
    · exact .base (.dK h)
    · exact .fDict h
  | ins c fs =>
    cases (Option.some.inj e)
    obtain ⟨a, dx, vs, e1, ha, ra⟩ := rep_ins r
    subst e1
    have z := hi c rfl
    exact .base (.ins (s.sub _ _ ha) z.cl z.ha z.hn z.htk z.hm)
  | ref l =>
    obtain ⟨a, e1, hp⟩ := rep_ref r
    subst e1
    have e : (match st[l]? with
      | some (.lst _) => some (Tn.ty "list")
      | _ => none) = some t := e
    cases e1 : st[l]? with
    | none => rw [e1] at e; cases e
    | some o =>
      rw [e1] at e
      cases o with
      | lst xs =>
        cases (Option.some.inj e)
        obtain ⟨vs, hv, rv⟩ := s.mem l _ a e1 hp
        exact .base (.lst hv)
      | _ => cases e
  | _ => cases e
theorem asTn_ok {d : D} {x : V} {t : Tn} (r : Rep T.K T.L fz ph d x) (e : d.asTn = some t) : ClsV x (t.val T.K) := by
  cases d with
  | ty n => cases (Option.some.inj e); rw [rep_ty r]; exact .ty n
  | glo n => cases (Option.some.inj e); rw [rep_glo r]; exact .own _
  | _ => cases e
end
section
variable {c : Cd} {cm : Bool} {sc : Scope}
theorem bi_isi {kit : Kit} (hk : KitOk c kit) : BiOk c cm sc (.builtin "isinstance") (isiP kit) := ⟨_, fun X hX => by have := @call_isi X; rw [hX.K] at this; exact this, by
  intro W fz H ph σ st ds xs Q s r h
  unfold isiP at h
  split at h
  · rename_i d e
    obtain ⟨u, v, rfl, r1, r2⟩ := reps2 r
    have h : RP c.T W fz ph σ H Q (match d.tn st, e.asTn with
      | some t, some u => (match kit.lookup (t, u) with
        | some b => .ok (.bl b) st
        | none => .stuck)
      | _, _ => .stuck) := h
    cases e1 : d.tn st with
    | none => rw [e1] at h; exact h.elim
    | some t =>
      cases e2 : e.asTn with
      | none => rw [e1, e2] at h; exact h.elim
      | some w =>
        rw [e1, e2] at h
        have h : RP c.T W fz ph σ H Q (match kit.lookup (t, w) with
          | some b => .ok (.bl b) st
          | none => .stuck) := h
        cases e3 : kit.lookup (t, w) with
        | none => rw [e3] at h; exact h.elim
        | some b =>
          rw [e3] at h
          obtain ⟨k1, k2⟩ := hk t w b e3
          exact ⟨u, v, t.val c.T.K, w.val c.T.K, b, rfl, asTn_ok r2 e2, tn_ok s r1 e1 k2, k1, bl_ok h s⟩
  · exact h.elim⟩
/-- the built-in part of a kit -/
def kitTys : List String := ["NoneType", "bool", "int", "str", "tuple", "list", "dict"]
def kitBase : Kit := kitTys.flatMap fun a => ["bool", "int", "str", "tuple", "list", "dict"].map fun b => ((Tn.ty a, Tn.ty b), a == b || (a == "bool" && b == "int"))
theorem kitBase_all : (kitBase.all fun p => match p.1 with
    | (.ty a, .ty b) => kitB a b == some p.2
    | _ => false) = true := by decide +kernel
theorem lookup_mem {α β : Type} [BEq α] [LawfulBEq α] {a : α} {b : β} : ∀ {l : List (α × β)}, l.lookup a = some b → (a, b) ∈ l
  | [], h => by simp at h
  | (x, y) :: l, h => by
    rw [List.lookup_cons] at h
    by_cases c : (a == x) = true
    · rw [c] at h
      have e := eq_of_beq c
      subst e
      have : y = b := Option.some.inj h
      subst this
      exact List.mem_cons_self
    · have c : (a == x) = false := by simpa using c
      rw [c] at h
      exact List.mem_cons_of_mem _ (lookup_mem h)
theorem kit_base {c : Cd} : KitOk c kitBase := by
  intro t u b h
  have hm := List.all_eq_true.mp kitBase_all _ (lookup_mem h)
  cases t with
  | own n => cases u <;> exact absurd hm Bool.false_ne_true
  | ty a =>
    cases u with
    | own n => exact absurd hm Bool.false_ne_true
    | ty d => exact ⟨kit_ty (by simpa using hm), fun n z => by cases z⟩
theorem kit_cons {c : Cd} {kit : Kit} {t u : Tn} {b : Bool} (hk : KitOk c kit) (h : PySem.W.kitOne c.T.K (t.val c.T.K) (u.val c.T.K) = some b) (hi : ∀ n, t = .own n → InsTy c.T.K (He.ga c.T.K n)) : KitOk c (((t, u), b) :: kit) := by
  intro t' u' b' e
  rw [List.lookup_cons] at e
  by_cases z : ((t', u') == (t, u)) = true
  · rw [z] at e
    have z := eq_of_beq z
    cases z
    have : b = b' := Option.some.inj e
    subst this
    exact ⟨h, hi⟩
  · have z : ((t', u') == (t, u)) = false := by simpa using z
    rw [z] at e
    exact hk t' u' b' e
end

/-! ### repr, str -/
def reprS (d : D) : Option Str := match d.py with
  | some p => if p.showable = true ∧ p.depth ≤ 60 ∧ p.shown.length ≤ sizeLine then some p.shown else none
  | none => none
def reprP (ds : List D) (st : Store) : R D := match ds with
  | [d] => okO ((reprS d).map .str) st
  | _ => .stuck
mutual
theorem dp_noDict {K : PySem.W.Frag} {H : Hp} : ∀ (p : PyData) (u : V), Dp K H u p → p.hasDict = false
  | .none, _, _ => rfl
  | .bool _, _, _ => rfl
  | .int _, _, _ => rfl
  | .str _, _, _ => rfl
  | .list ds, _, h => by
    cases h with
    | lst s r => simp only [PyData.hasDict]; exact dpAll_noDict ds _ r
  | .tuple ds, _, h => by
    cases h with
    | tup s r => simp only [PyData.hasDict]; exact dpAll_noDict ds _ r
  | .dict _, _, h => by cases h
theorem dpAll_noDict {K : PySem.W.Frag} {H : Hp} : ∀ (ps : List PyData) (us : List V), DpAll K H us ps → PyData.hasDictAll ps = false
  | [], _, _ => rfl
  | p :: ps, _, h => by
    cases h with
    | cons h1 h2 => simp only [PyData.hasDictAll, dp_noDict p _ h1, dpAll_noDict ps _ h2, Bool.or_self]
end
def rRepr (K : PySem.W.Frag) : List V → Hp → VK → Prop := fun xs H Q => ∃ x p, xs = [x] ∧ Dp K H x p ∧ p.showable = true ∧ p.depth ≤ 60 ∧ p.shown.length ≤ sizeLine ∧ Q (.str p.shown) H
theorem call_reprD {X : Cx} (hg : X.A.guards = some []) (hu : X.A.units + 65 < cLine) : CallR X (.builtin "repr") (rRepr X.K) := by
  intro pins s σ H xs us Q I r h
  obtain ⟨x, p, rfl, hd, h1, h2, h3, q⟩ := h
  obtain ⟨u, rfl, rx⟩ := vals1 r
  have hn := dp_noDict p x hd
  cases hd with
  | non => cases rx; exact PySem.P.repr_of_none ⟨.str _, H, I.tok _, ⟨_, rfl⟩, q⟩
  | bl b => cases rx; exact PySem.P.repr_of_bool ⟨.str _, H, I.tok _, ⟨_, rfl⟩, q⟩
  | int i => obtain ⟨t, rfl⟩ := rx; exact PySem.P.repr_of_int (of_decide_eq_true (by simpa [PyData.showable] using h1)) ⟨.str _, H, I.tok _, ⟨_, rfl⟩, q⟩
  | str y => obtain ⟨t, rfl⟩ := rx; exact PySem.P.repr_of_str ⟨.str _, H, I.tok _, ⟨_, rfl⟩, q⟩ h3
  | lst hs ha =>
    obtain ⟨as, rd⟩ := Dp.reads I _ _ _ (.lst hs ha) rx
    cases rx
    exact PySem.repr_of_reads' rd h1 (PyData.noDict_hsm hn) hg (by omega) (fun _ _ e => e) (fun h' u tk hk => ⟨.str _, H, I.kept fun b o e => hk b o e, ⟨_, rfl⟩, q⟩) h3
  | tup hs ha =>
    obtain ⟨as, rd⟩ := Dp.reads I _ _ _ (.tup hs ha) rx
    cases rx
    exact PySem.repr_of_reads' rd h1 (PyData.noDict_hsm hn) hg (by omega) (fun _ _ e => e) (fun h' u tk hk => ⟨.str _, H, I.kept fun b o e => hk b o e, ⟨_, rfl⟩, q⟩) h3
section
variable {c : Cd} {cm : Bool} {sc : Scope}
theorem reprS_ok {d : D} {z : Str} (h : reprS d = some z) : ∃ p, d.py = some p ∧ p.showable = true ∧ p.depth ≤ 60 ∧ p.shown.length ≤ sizeLine ∧ z = p.shown := by
  unfold reprS at h
  cases e : d.py with
  | none => rw [e] at h; cases h
  | some p =>
    rw [e] at h
    have h : (if p.showable = true ∧ p.depth ≤ 60 ∧ p.shown.length ≤ sizeLine then some p.shown else none) = some z := h
    by_cases z' : p.showable = true ∧ p.depth ≤ 60 ∧ p.shown.length ≤ sizeLine
    · rw [if_pos z'] at h
      exact ⟨p, rfl, z'.1, z'.2.1, z'.2.2, (Option.some.inj h).symm⟩
    · rw [if_neg z'] at h; cases h
theorem bi_repr : BiOk c cm sc (.builtin "repr") reprP := ⟨_, fun X hX => by have := call_reprD (X := X) hX.gd (by have := hX.un; omega); rw [hX.K] at this; exact this, by
  intro W fz H ph σ st ds xs Q s r h
  unfold reprP at h
  split at h
  · rename_i d
    obtain ⟨u, rfl, r1⟩ := reps1 r
    obtain ⟨z, e1, h⟩ := okO_ok (o := (reprS d).map .str) h
    obtain ⟨y, e2, e3⟩ := Option.map_eq_some_iff.mp e1
    subst e3
    obtain ⟨p, e4, h1, h2, h3, e5⟩ := reprS_ok e2
    subst e5
    exact ⟨u, p, rfl, s.dp r1 e4, h1, h2, h3, str_ok h s⟩
  · exact h.elim⟩
/-! ### int, str, abs, min, max, divmod -/
def intP (ds : List D) (st : Store) : R D := match ds with
  | [.int i] => .ok (.int i) st
  | [.bl k] => .ok (.int (if k then 1 else 0)) st
  | [.str a] => (match PySem.intText? a with
    | some n => if a.length ≤ 640 then .ok (.int n) st else .stuck
    | none => .stuck)
  | _ => .stuck
theorem bi_int : BiOk c cm sc (.type "int") intP := ⟨_, fun X hX => call_int1.or call_int_str, by
  intro W fz H ph σ st ds xs Q s r h
  unfold intP at h
  split at h
  · rename_i i
    obtain ⟨u, rfl, r1⟩ := reps1 r
    rw [rep_int r1]
    exact .inl (.inl ⟨i, rfl, int_ok h s⟩)
  · rename_i k
    obtain ⟨u, rfl, r1⟩ := reps1 r
    rw [rep_bl r1]
    exact .inl (.inr ⟨k, rfl, int_ok h s⟩)
  · rename_i a
    obtain ⟨u, rfl, r1⟩ := reps1 r
    rw [rep_str r1]
    have h : RP c.T W fz ph σ H Q (match PySem.intText? a with
      | some n => if a.length ≤ 640 then .ok (.int n) st else .stuck
      | none => .stuck) := h
    cases e : PySem.intText? a with
    | none => rw [e] at h; exact h.elim
    | some n =>
      rw [e] at h
      have h : RP c.T W fz ph σ H Q (if a.length ≤ 640 then .ok (.int n) st else .stuck) := h
      by_cases z : a.length ≤ 640
      · rw [if_pos z] at h
        exact .inr ⟨a, n, rfl, e, z, int_ok h s⟩
      · rw [if_neg z] at h; exact h.elim
  · exact h.elim⟩
def strP (ds : List D) (st : Store) : R D := match ds with
  | [.int i] => if i.natAbs.log2 < 1920 then .ok (.str (toString i)) st else .stuck
  | [.str a] => .ok (.str a) st
  | _ => .stuck
theorem bi_str : BiOk c cm sc (.type "str") strP := ⟨_, fun X hX => call_str_int.or SkE.call_str_str, by
  intro W fz H ph σ st ds xs Q s r h
  unfold strP at h
  split at h
  · rename_i i
    obtain ⟨u, rfl, r1⟩ := reps1 r
    rw [rep_int r1]
    have h : RP c.T W fz ph σ H Q (if i.natAbs.log2 < 1920 then .ok (.str (toString i)) st else .stuck) := h
    by_cases z : i.natAbs.log2 < 1920
    · rw [if_pos z] at h
      exact .inl ⟨i, rfl, z, str_ok h s⟩
    · rw [if_neg z] at h; exact h.elim
  · rename_i a
    obtain ⟨u, rfl, r1⟩ := reps1 r
    rw [rep_str r1]
    exact .inr ⟨a, rfl, str_ok h s⟩
  · exact h.elim⟩
def absP (ds : List D) (st : Store) : R D := match ds with
  | [.int i] => .ok (.int (if i < 0 then -i else i)) st
  | _ => .stuck
theorem bi_abs : BiOk c cm sc (.builtin "abs") absP := ⟨_, fun X hX => call_abs, by
  intro W fz H ph σ st ds xs Q s r h
  unfold absP at h
  split at h
  · rename_i i
    obtain ⟨u, rfl, r1⟩ := reps1 r
    rw [rep_int r1]
    exact ⟨i, rfl, int_ok h s⟩
  · exact h.elim⟩
def maxP (ds : List D) (st : Store) : R D := match ds with
  | [.int i, .int j] => .ok (.int (if j > i then j else i)) st
  | _ => .stuck
def minP (ds : List D) (st : Store) : R D := match ds with
  | [.int i, .int j] => .ok (.int (if j < i then j else i)) st
  | _ => .stuck
theorem bi_max : BiOk c true sc (.builtin "max") maxP := ⟨_, fun X hX => call_max2 (hX.calm rfl).1, by
  intro W fz H ph σ st ds xs Q s r h
  unfold maxP at h
  split at h
  · rename_i i j
    obtain ⟨u, v, rfl, r1, r2⟩ := reps2 r
    rw [rep_int r1, rep_int r2]
    exact ⟨i, j, rfl, int_ok h s⟩
  · exact h.elim⟩
theorem bi_min : BiOk c true sc (.builtin "min") minP := ⟨_, fun X hX => call_min2 (hX.calm rfl).1, by
  intro W fz H ph σ st ds xs Q s r h
  unfold minP at h
  split at h
  · rename_i i j
    obtain ⟨u, v, rfl, r1, r2⟩ := reps2 r
    rw [rep_int r1, rep_int r2]
    exact ⟨i, j, rfl, int_ok h s⟩
  · exact h.elim⟩
def divmodP (ds : List D) (st : Store) : R D := match ds with
  | [.int i, .int j] => if 0 < j ∧ j < 1073741824 then .ok (.tup [.int (i / j), .int (i % j)]) st else .stuck
  | _ => .stuck
theorem bi_divmod : BiOk c cm sc (.builtin "divmod") divmodP := ⟨_, fun X hX => call_divmod, by
  intro W fz H ph σ st ds xs Q s r h
  unfold divmodP at h
  split at h
  · rename_i i j
    obtain ⟨u, v, rfl, r1, r2⟩ := reps2 r
    rw [rep_int r1, rep_int r2]
    have h : RP c.T W fz ph σ H Q (if 0 < j ∧ j < 1073741824 then .ok (.tup [.int (i / j), .int (i % j)]) st else .stuck) := h
    by_cases z : 0 < j ∧ j < 1073741824
    · rw [if_pos z] at h
      exact ⟨i, j, rfl, z, fun p hp => h.new s hp (fun ps q => by cases q) (new_tup s hp (by simp only [Reps, Rep]; exact ⟨_, _, rfl, rfl, _, _, rfl, rfl, rfl⟩))⟩
    · rw [if_neg z] at h; exact h.elim
  · exact h.elim⟩
/-! ### tuple, list -/
def tupleP (ds : List D) (st : Store) : R D := match ds with
  | [.tup xs] => .ok (.tup xs) st
  | [.lst xs] => .ok (.tup xs) st
  | [.ref l] => (match st[l]? with
    | some (.lst xs) => .ok (.tup xs) st
    | _ => .stuck)
  | _ => .stuck
def listP (ds : List D) (st : Store) : R D := match ds with
  | [.tup xs] => .ok (.lst xs) st
  | [.lst xs] => .ok (.lst xs) st
  | _ => .stuck
theorem bi_tuple : BiOk c cm sc (.type "tuple") tupleP := ⟨_, fun X hX => by have := @call_tuple_of X; rw [hX.K] at this; exact this, by
  intro W fz H ph σ st ds xs Q s r h
  unfold tupleP at h
  split at h
  · rename_i ys
    obtain ⟨u, rfl, r1⟩ := reps1 r
    obtain ⟨a, vs, e1, ha, ra⟩ := rep_tup r1
    subst e1
    exact ⟨a, vs, rfl, .inr ⟨s.sqT ha, RP.here (d := .tup ys) h s r1⟩⟩
  · rename_i ys
    obtain ⟨u, rfl, r1⟩ := reps1 r
    obtain ⟨a, vs, e1, ha, ra⟩ := rep_lst r1
    subst e1
    exact ⟨a, vs, rfl, .inl ⟨.inl (s.rd ha), fun p hp => RP.new (d := .tup ys) h s hp (fun ps q => by cases q) (new_tup s hp ra)⟩⟩
  · rename_i l
    obtain ⟨u, rfl, r1⟩ := reps1 r
    obtain ⟨a, e1, hp⟩ := rep_ref r1
    subst e1
    split at h
    · rename_i ys q1
      obtain ⟨vs, hv, rv⟩ := s.mem l _ a q1 hp
      exact ⟨a, vs, rfl, .inl ⟨.inl (.inl hv), fun p hp => RP.new (d := .tup ys) h s hp (fun ps q => by cases q) (new_tup s hp rv)⟩⟩
    · exact h.elim
  · exact h.elim⟩
theorem bi_list : BiOk c cm sc (.type "list") listP := ⟨_, fun X hX => by have := @call_list_of X; rw [hX.K] at this; exact this, by
  intro W fz H ph σ st ds xs Q s r h
  unfold listP at h
  split at h
  · rename_i ys
    obtain ⟨u, rfl, r1⟩ := reps1 r
    obtain ⟨a, vs, e1, ha, ra⟩ := rep_tup r1
    subst e1
    exact ⟨a, vs, rfl, .inr (s.sqT ha), fun p hp => RP.new (d := .lst ys) h s hp (fun ps q => by cases q) (new_lst s hp ra)⟩
  · rename_i ys
    obtain ⟨u, rfl, r1⟩ := reps1 r
    obtain ⟨a, vs, e1, ha, ra⟩ := rep_lst r1
    subst e1
    exact ⟨a, vs, rfl, .inl (.inl (s.rd ha)), fun p hp => RP.new (d := .lst ys) h s hp (fun ps q => by cases q) (new_lst s hp ra)⟩
  · exact h.elim⟩
/-! ### all, any -/
def blD : D → Option Bool
  | .bl b => some b
  | _ => none
def blsD : List D → Option (List Bool)
  | [] => some []
  | d :: ds => match blD d, blsD ds with
    | some b, some bs => some (b :: bs)
    | _, _ => none
theorem bls_rep {T : Pa} {fz : Hp} {ph : List Addr} : ∀ {ds : List D} {us : List V} {bs : List Bool}, Reps T.K T.L fz ph ds us → blsD ds = some bs → us = bs.map V.bl
  | [], _, _, r, e => by rw [reps0 r]; cases (Option.some.inj e); rfl
  | d :: ds, _, bs, r, e => by
    simp only [Reps] at r
    obtain ⟨v, q, e', h1, h2⟩ := r
    subst e'
    simp only [blsD] at e
    cases e1 : blD d with
    | none => rw [e1] at e; cases e
    | some b =>
      cases e2 : blsD ds with
      | none => rw [e1, e2] at e; cases e
      | some cs =>
        rw [e1, e2] at e
        cases (Option.some.inj e)
        rw [bls_rep h2 e2]
        cases d with
        | bl k =>
          cases (Option.some.inj e1)
          rw [rep_bl h1]
          rfl
        | _ => cases e1
def anyP (ds : List D) (st : Store) : R D := match ds with
  | [.lst xs] => okO ((blsD xs).map fun bs => .bl (bs.any id)) st
  | _ => .stuck
def allP (ds : List D) (st : Store) : R D := match ds with
  | [.lst xs] => okO ((blsD xs).map fun bs => .bl (bs.all id)) st
  | _ => .stuck
theorem bi_any : BiOk c true sc (.builtin "any") anyP := ⟨_, fun X hX => by have := cr_any (hX.calm rfl).1; rw [hX.K] at this; exact this, by
  intro W fz H ph σ st ds xs Q s r h
  unfold anyP at h
  split at h
  · rename_i ys
    obtain ⟨u, rfl, r1⟩ := reps1 r
    obtain ⟨a, vs, e1, ha, ra⟩ := rep_lst r1
    subst e1
    obtain ⟨z, e1, h⟩ := okO_ok (o := (blsD ys).map fun bs => .bl (bs.any id)) h
    obtain ⟨bs, e2, e3⟩ := Option.map_eq_some_iff.mp e1
    subst e3
    have e4 := bls_rep ra e2
    subst e4
    exact ⟨a, bs, rfl, .inl (s.rd ha), bl_ok h s⟩
  · exact h.elim⟩
theorem bi_all : BiOk c true sc (.builtin "all") allP := ⟨_, fun X hX => by have := cr_all (hX.calm rfl).1; rw [hX.K] at this; exact this, by
  intro W fz H ph σ st ds xs Q s r h
  unfold allP at h
  split at h
  · rename_i ys
    obtain ⟨u, rfl, r1⟩ := reps1 r
    obtain ⟨a, vs, e1, ha, ra⟩ := rep_lst r1
    subst e1
    obtain ⟨z, e1, h⟩ := okO_ok (o := (blsD ys).map fun bs => .bl (bs.all id)) h
    obtain ⟨bs, e2, e3⟩ := Option.map_eq_some_iff.mp e1
    subst e3
    have e4 := bls_rep ra e2
    subst e4
    exact ⟨a, bs, rfl, .inl (s.rd ha), bl_ok h s⟩
  · exact h.elim⟩
end
end DV

namespace DV
open PySem PySem.Spec PyProof.Rows L2

/-! ### the store: a new one, a change, an end -/
section
variable {T : Pa} {fz H : Hp} {ph : List Addr} {st : Store} {σ : L2.St} {W : WX} {Q : VK}
/-- a plain changing object -/
def Chg : HO → Prop
  | .lst _ => True
  | .dK _ => True
  | .dT _ => True
  | .ins _ _ _ => True
  | _ => False
theorem MOk.chg {a : Addr} {o : MO} (h : MOk T fz ph H a o) (l : o.live = true) : ∃ u, H a = some u ∧ Chg u := by
  cases o with
  | lst xs => obtain ⟨vs, h, _⟩ := h; exact ⟨_, h, True.intro⟩
  | ins c fs => obtain ⟨dx, vs, h, _⟩ := h; exact ⟨_, h, True.intro⟩
  | dK kvs => obtain ⟨vs, h, _⟩ := h; exact ⟨_, h, True.intro⟩
  | dT kvs => obtain ⟨vs, h, _⟩ := h; exact ⟨_, h, True.intro⟩
  | dead => exact absurd l Bool.false_ne_true
theorem tabs_put {tb : List (Addr × Str)} {a : Addr} {u u' : HO} (t : LamX.Tabs tb H) (h : H a = some u) (c : Chg u) : LamX.Tabs tb (upd H a u') := fun p hp => by
  obtain ⟨ps, h1, h2, h3⟩ := t p hp
  have n1 : p.1 ≠ a := by
    intro e
    rw [e, h] at h1
    cases h1
    exact c
  refine ⟨ps, by rw [upd_ne n1]; exact h1, h2, fun pos cv hc => ?_⟩
  obtain ⟨d, e1, e2⟩ := h3 pos cv hc
  have n2 : d ≠ a := by
    intro e
    rw [e, h] at e2
    cases e2
    exact c
  exact ⟨d, e1, by rw [upd_ne n2]; exact e2⟩
theorem SOk.put (s : SOk T fz ph st H) {l : Nat} {a : Addr} {o o' : MO} {u' : HO} (h1 : st[l]? = some o) (h2 : ph[l]? = some a) (lv : o.live = true) (hn : MOk T fz ph (upd H a u') a o') : SOk T fz ph (st.set l o') (upd H a u') where
  sub := fun b u h => by
    have n : b ≠ a := by
      intro e
      subst e
      rw [s.out l o b h1 h2 lv] at h
      cases h
    rw [upd_ne n]
    exact s.sub b u h
  len := by rw [List.length_set]; exact s.len
  mem := fun i m b e1 e2 => by
    by_cases e : i = l
    · subst e
      rw [h2] at e2
      cases e2
      have hl : i < st.length := (List.getElem?_eq_some_iff.mp h1).1
      rw [List.getElem?_set_self hl] at e1
      cases e1
      exact hn
    · rw [List.getElem?_set_ne (Ne.symm e)] at e1
      have n : b ≠ a := by
        intro z
        subst z
        obtain ⟨q1, q2⟩ := List.getElem?_eq_some_iff.mp e2
        obtain ⟨q3, q4⟩ := List.getElem?_eq_some_iff.mp h2
        exact e ((List.getElem_inj s.nd).mp (q2.trans q4.symm))
      exact MOk.more (.refl _ _) (fun u hu => by rw [upd_ne n]; exact hu) (s.mem i m b e1 e2)
  nd := s.nd
  out := fun i m b e1 e2 e3 => by
    by_cases e : i = l
    · subst e
      rw [h2] at e2
      cases e2
      exact s.out i o a h1 h2 lv
    · rw [List.getElem?_set_ne (Ne.symm e)] at e1
      exact s.out i m b e1 e2 e3
  tb := by
    obtain ⟨u, e, c⟩ := (s.mem l o a h1 h2).chg lv
    exact tabs_put s.tb e c
  nt := s.nt
theorem Ext.put (s : SOk T fz ph st H) {l : Nat} {a : Addr} {u' : HO} (h2 : ph[l]? = some a) : Ext fz ph H fz ph (upd H a u') where
  more := .refl _ _
  fr := fun b u h n _ => by
    have : b ≠ a := fun e => n (e ▸ List.mem_of_getElem? h2)
    rw [upd_ne this]
    exact h
  dm := fun b h => by
    by_cases e : b = a
    · subst e; rw [upd_same]; simp
    · rw [upd_ne e]; exact h
  nf := fun b h => .inl h
  np := fun b h => .inl h
theorem More.snoc {a : Addr} : More fz ph fz (ph ++ [a]) := ⟨fun _ _ h => h, [a], rfl⟩
theorem SOk.alloc (s : SOk T fz ph st H) {p : Addr} {o : HO} {m : MO} (hp : H p = none) (hn : MOk T fz (ph ++ [p]) (upd H p o) p m) : SOk T fz (ph ++ [p]) (st ++ [m]) (upd H p o) where
  sub := fun b u h => by
    have := s.sub b u h
    rw [upd_ne (ne_of_none this hp)]
    exact this
  len := by simp [s.len]
  mem := fun i m' b e1 e2 => by
    by_cases e : i < st.length
    · rw [List.getElem?_append_left e] at e1
      rw [List.getElem?_append_left (by have := s.len; omega)] at e2
      exact MOk.more More.snoc (fun u hu => by rw [upd_ne (ne_of_none hu hp)]; exact hu) (s.mem i m' b e1 e2)
    · have hl := s.len
      have h1 : i < (st ++ [m]).length := (List.getElem?_eq_some_iff.mp e1).1
      have hi : i = st.length := by simp at h1; omega
      subst hi
      rw [List.getElem?_append_right (by omega)] at e1
      rw [List.getElem?_append_right (by omega)] at e2
      simp [hl] at e1 e2
      subst e1 e2
      exact hn
  nd := by
    rw [List.nodup_append]
    refine ⟨s.nd, by simp, fun x hx y hy => ?_⟩
    have e : y = p := by simpa using hy
    subst e
    intro e
    subst e
    obtain ⟨u, hu⟩ := s.at_some hx
    rw [hu] at hp
    cases hp
  out := fun i m' b e1 e2 e3 => by
    by_cases e : i < st.length
    · rw [List.getElem?_append_left e] at e1
      rw [List.getElem?_append_left (by have := s.len; omega)] at e2
      exact s.out i m' b e1 e2 e3
    · have hl := s.len
      have h1 : i < (st ++ [m]).length := (List.getElem?_eq_some_iff.mp e1).1
      have hi : i = st.length := by simp at h1; omega
      subst hi
      rw [List.getElem?_append_right (by omega)] at e2
      simp [hl] at e2
      subst e2
      cases q : fz p with
      | none => rfl
      | some u => rw [s.sub _ _ q] at hp; cases hp
  tb := s.tb.ext fun a u h => by rw [upd_ne (ne_of_none h hp)]; exact h
  nt := s.nt
theorem Ext.alloc (s : SOk T fz ph st H) {p : Addr} {o : HO} (hp : H p = none) : Ext fz ph H fz (ph ++ [p]) (upd H p o) where
  more := More.snoc
  fr := fun b u h n _ => by rw [upd_ne (ne_of_none h hp)]; exact h
  dm := fun b h => by
    by_cases e : b = p
    · subst e; rw [upd_same]; simp
    · rw [upd_ne e]; exact h
  nf := fun b h => .inl h
  np := fun b h => by
    rcases List.mem_append.mp h with h | h
    · exact .inl h
    · have e : b = p := by simpa using h
      subst e
      exact .inr hp
theorem More.frz {a : Addr} {u : HO} (h : fz a = none) : More fz ph (upd fz a u) ph := ⟨fun b o e => by rw [upd_ne (ne_of_none e h)]; exact e, [], by simp⟩
/-- from now on it stays as it is -/
theorem SOk.freeze (s : SOk T fz ph st H) {l : Nat} {a : Addr} {o : MO} {u : HO} (h1 : st[l]? = some o) (h2 : ph[l]? = some a) (lv : o.live = true) (hu : H a = some u) : SOk T (upd fz a u) ph (st.set l .dead) H where
  sub := fun b v h => by
    by_cases e : b = a
    · subst e; rw [upd_same] at h; cases h; exact hu
    · rw [upd_ne e] at h; exact s.sub b v h
  len := by rw [List.length_set]; exact s.len
  mem := fun i m b e1 e2 => by
    by_cases e : i = l
    · subst e
      rw [h2] at e2
      cases e2
      have hl : i < st.length := (List.getElem?_eq_some_iff.mp h1).1
      rw [List.getElem?_set_self hl] at e1
      cases e1
      exact ⟨u, upd_same⟩
    · rw [List.getElem?_set_ne (Ne.symm e)] at e1
      exact MOk.more (More.frz (s.out l o a h1 h2 lv)) (fun _ h => h) (s.mem i m b e1 e2)
  nd := s.nd
  out := fun i m b e1 e2 e3 => by
    by_cases e : i = l
    · subst e
      have hl : i < st.length := (List.getElem?_eq_some_iff.mp h1).1
      rw [List.getElem?_set_self hl] at e1
      cases e1
      exact absurd e3 Bool.false_ne_true
    · rw [List.getElem?_set_ne (Ne.symm e)] at e1
      have n : b ≠ a := by
        intro z
        subst z
        obtain ⟨q1, q2⟩ := List.getElem?_eq_some_iff.mp e2
        obtain ⟨q3, q4⟩ := List.getElem?_eq_some_iff.mp h2
        exact e ((List.getElem_inj s.nd).mp (q2.trans q4.symm))
      rw [upd_ne n]
      exact s.out i m b e1 e2 e3
  tb := s.tb
  nt := fun b ps h => by
    by_cases e : b = a
    · subst e
      rw [upd_same] at h
      cases h
      obtain ⟨u2, e2, c2⟩ := (s.mem l o b h1 h2).chg lv
      rw [hu] at e2
      cases e2
      exact c2
    · rw [upd_ne e] at h; exact s.nt b ps h
theorem Ext.freeze {a : Addr} {u : HO} (h : fz a = none) (hm : a ∈ ph) : Ext fz ph H (upd fz a u) ph H := ⟨More.frz h, fun _ _ h _ _ => h, fun _ h => h, fun b q => by
  by_cases e : b = a
  · subst e; exact .inr (.inr hm)
  · rw [upd_ne e] at q; exact .inl q, fun _ h => .inl h⟩
end
/-- a value that is kept from now on as it is -/
def frzR (d : D) (st : Store) : R D := match d with
  | .ref l => (match st[l]? with
    | some (.lst xs) => .ok (.lst xs) (st.set l .dead)
    | some (.ins c fs) => .ok (.ins c fs) (st.set l .dead)
    | some (.dK kvs) => .ok (.dK kvs) (st.set l .dead)
    | some (.dT kvs) => .ok (.dT kvs) (st.set l .dead)
    | _ => .stuck)
  | d => .ok d st
theorem frz_ok {T : Pa} {fz H : Hp} {ph : List Addr} {st : Store} {d : D} {u : V} (s : SOk T fz ph st H) (r : Rep T.K T.L fz ph d u) {d' : D} {st' : Store} (e : frzR d st = .ok d' st') :
    ∃ fz', Ext fz ph H fz' ph H ∧ SOk T fz' ph st' H ∧ Rep T.K T.L fz' ph d' u := by
  cases d with
  | ref l =>
    obtain ⟨a, e1, hp⟩ := rep_ref r
    have e : (match st[l]? with
      | some (.lst xs) => (R.ok (D.lst xs) (st.set l MO.dead) : R D)
      | some (.ins c fs) => .ok (D.ins c fs) (st.set l MO.dead)
      | some (.dK kvs) => .ok (D.dK kvs) (st.set l MO.dead)
      | some (.dT kvs) => .ok (D.dT kvs) (st.set l MO.dead)
      | _ => .stuck) = .ok d' st' := e
    cases q : st[l]? with
    | none => rw [q] at e; cases e
    | some o =>
      rw [q] at e
      have hm := s.mem l o a q hp
      cases o with
      | dead => cases e
      | lst xs =>
        cases e
        obtain ⟨vs, hv, rv⟩ := hm
        have hf := s.out l _ a q hp rfl
        exact ⟨_, Ext.freeze hf (List.mem_of_getElem? hp), s.freeze q hp rfl hv, by simp only [Rep]; exact ⟨a, vs, e1, .inl upd_same, Reps.more (More.frz hf) xs vs rv⟩⟩
      | ins c fs =>
        cases e
        obtain ⟨dx, vs, hv, rv⟩ := hm
        have hf := s.out l _ a q hp rfl
        exact ⟨_, Ext.freeze hf (List.mem_of_getElem? hp), s.freeze q hp rfl hv, by simp only [Rep]; exact ⟨a, dx, vs, e1, upd_same, RepF.more (More.frz hf) fs vs rv⟩⟩
      | dK kvs =>
        cases e
        obtain ⟨vs, hv, rv⟩ := hm
        have hf := s.out l _ a q hp rfl
        exact ⟨_, Ext.freeze hf (List.mem_of_getElem? hp), s.freeze q hp rfl hv, by simp only [Rep, DiK]; exact ⟨a, vs, e1, .inl upd_same, RepK.more (More.frz hf) kvs vs rv⟩⟩
      | dT kvs =>
        cases e
        obtain ⟨vs, hv, rv⟩ := hm
        have hf := s.out l _ a q hp rfl
        exact ⟨_, Ext.freeze hf (List.mem_of_getElem? hp), s.freeze q hp rfl hv, by simp only [Rep, DiT]; exact ⟨a, vs, e1, .inl upd_same, RepT.more (More.frz hf) kvs vs rv⟩⟩
  | _ =>
    first
      | (have e : R.ok _ st = R.ok d' st' := e
         cases e
         exact ⟨fz, .refl _ _ _, s, r⟩)
def shFrz (f : Sh) : Sh := fun ρ st => (f ρ st).bind frzR
section
variable {c : Cd} {cm : Bool} {sc : Scope} {a b : PySem.Expr} {es : List PySem.Expr} {fa fb fk : Sh} {fs : List Sh} {pos p2 : Pos}
theorem se_frz (ha : SE c cm sc a fa) : SE c cm sc a (shFrz fa) := fun X W hX tk => peI (ha X W hX tk) fun σ H Q h =>
  tE_mono (fun u H' q => q) (tE.step (k := fun d _ st => frzR d st) (Q' := Q) h fun d ρ st fz ph H1 x s e rx q => by
    cases q1 : frzR d st with
    | ok d' st' =>
      rw [q1] at q
      obtain ⟨fz', x1, s1, r1⟩ := frz_ok s rx q1
      exact q fz' ph H1 x x1 s1 r1
    | ex c fs st' => unfold frzR at q1; repeat (first | (split at q1) | (cases q1))
    | stuck => rw [q1] at q; exact q.elim)
/-- a list of written items that may change -/
def shLstM (fs : List Sh) : Sh := fun ρ st => (evs fs ρ st).bind fun ds st => if ds.length ≤ sizeLine then .ok (.ref st.length) (st ++ [.lst ds]) else .stuck
theorem RP.alloc {T : Pa} {fz H : Hp} {ph : List Addr} {st : Store} {σ : L2.St} {W : WX} {Q : VK} {p : Addr} {o : HO} {m : MO} (h : RP T W fz ph σ H Q (.ok (.ref st.length) (st ++ [m]))) (s : SOk T fz ph st H) (hp : H p = none)
    (hn : MOk T fz (ph ++ [p]) (upd H p o) p m) : Q (.ref p) (upd H p o) :=
  h _ _ _ _ (Ext.alloc s hp) (s.alloc hp hn) (by simp only [Rep]; exact ⟨p, rfl, by rw [s.len, List.getElem?_append_right (Nat.le_refl _)]; simp⟩)
theorem se_lstM (hs : SA c cm sc es fs) : SE c cm sc (.List es pos) (shLstM fs) := fun X W hX tk =>
  peI (pe_lst (hs.2 X W hX tk)) fun σ H Q h => tA.step (k := fun ds ρ st => if ds.length ≤ sizeLine then .ok (.ref st.length) (st ++ [MO.lst ds]) else .stuck) h fun ds ρ st fz ph H1 us s e r q => by
    by_cases z : ds.length ≤ sizeLine
    · rw [if_pos z] at q
      exact ⟨by rw [← r.length]; exact z, fun p hp => RP.alloc q s hp ⟨us, upd_same, Reps.more More.snoc ds us r⟩⟩
    · rw [if_neg z] at q; exact q.elim
end

/-! ### statements -/
inductive RS where
  | nx (ρ : Env) (st : Store)
  | rt (d : D) (st : Store)
  | bk (ρ : Env) (st : Store)
  | ct (ρ : Env) (st : Store)
  | ex (c : Str) (fs : List (Str × D)) (ρ : Env) (st : Store)
  | stuck
abbrev Ss := Env → Store → RS
def R.toS {α : Type} (r : R α) (ρ : Env) (k : α → Store → RS) : RS := match r with
  | .ok d st => k d st
  | .ex c fs st => .ex c fs ρ st
  | .stuck => .stuck
def RS.then (r : RS) (k : Ss) : RS := match r with
  | .nx ρ st => k ρ st
  | r => r
section
variable (T : Pa)
def RQ (W : WX) (fz : Hp) (ph : List Addr) (H : Hp) (De : Ends) (r : RS) : Prop :=
  match r with
  | .nx ρ st => ∀ fz' ph' σ' H', Ext fz ph H fz' ph' H' → SOk T fz' ph' st H' → EOk T fz' ph' ρ σ' → De.nx σ' H'
  | .rt d st => ∀ fz' ph' H' u, Ext fz ph H fz' ph' H' → SOk T fz' ph' st H' → Rep T.K T.L fz' ph' d u → De.rt u H'
  | .bk ρ st => ∀ fz' ph' σ' H', Ext fz ph H fz' ph' H' → SOk T fz' ph' st H' → EOk T fz' ph' ρ σ' → De.bk σ' H'
  | .ct ρ st => ∀ fz' ph' σ' H', Ext fz ph H fz' ph' H' → SOk T fz' ph' st H' → EOk T fz' ph' ρ σ' → De.ct σ' H'
  | .ex c fs ρ st => ∀ fz' ph' σ' H' cls d, Ext fz ph H fz' ph' H' → SOk T fz' ph' st H' → EOk T fz' ph' ρ σ' → XOk T fz' ph' H' c fs cls d → W cls d σ' H'
  | .stuck => False
def tS (W : WX) (f : Ss) : TS := fun De σ H => ∃ fz ph ρ st, SOk T fz ph st H ∧ EOk T fz ph ρ σ ∧ RQ T W fz ph H De (f ρ st)
end
section
variable {T : Pa} {fz fz' H H' : Hp} {ph ph' : List Addr} {st : Store} {σ : L2.St} {W : WX} {Q : VK} {De : Ends} {ρ : Env}
theorem RQ.ext {r : RS} (h : RQ T W fz ph H De r) (e : Ext fz ph H fz' ph' H') : RQ T W fz' ph' H' De r := by
  cases r with
  | nx ρ st => exact fun f p σ' H' x s q => h f p σ' H' (e.trans x) s q
  | rt d st => exact fun f p H' u x s q => h f p H' u (e.trans x) s q
  | bk ρ st => exact fun f p σ' H' x s q => h f p σ' H' (e.trans x) s q
  | ct ρ st => exact fun f p σ' H' x s q => h f p σ' H' (e.trans x) s q
  | ex c fs ρ st => exact fun f p σ' H' cls d x s q => h f p σ' H' cls d (e.trans x) s q
  | stuck => exact h
/-- an expression, then more -/
theorem RQ.step {r : R D} {k : D → Store → RS} {Q' : VK} (ek : EOk T fz ph ρ σ) (h : RQ T W fz ph H De (r.toS ρ k))
    (hk : ∀ d st fz' ph' H' u, Ext fz ph H fz' ph' H' → SOk T fz' ph' st H' → EOk T fz' ph' ρ σ → Rep T.K T.L fz' ph' d u → RQ T W fz' ph' H' De (k d st) → Q' u H') : RP T W fz ph σ H Q' r := by
  cases r with
  | ok d st' => exact fun f p H' u x s' r' => hk d st' f p H' u x s' (ek.ext x) r' (RQ.ext (r := k d st') h x)
  | ex c fs st' => exact fun f p H' cls d x s' q => h f p σ H' cls d x s' (ek.ext x) q
  | stuck => exact h
theorem tS.step {f : Sh} {k : D → Ss} {Q' : V → Hp → Prop} (h : tS T W (fun ρ st => (f ρ st).toS ρ fun d st => k d ρ st) De σ H)
    (hk : ∀ d ρ st fz' ph' H' u, SOk T fz' ph' st H' → EOk T fz' ph' ρ σ → Rep T.K T.L fz' ph' d u → RQ T W fz' ph' H' De (k d ρ st) → Q' u H') : tE T W f σ H Q' := by
  obtain ⟨fz, ph, ρ, st, s, e, r⟩ := h
  exact ⟨fz, ph, ρ, st, s, e, RQ.step (k := fun d st => k d ρ st) e r fun d st' f p H' u x s' e' r' q => hk d ρ st' f p H' u s' e' r' q⟩
/-- the rest of a block -/
theorem RQ.then {r : RS} {k : Ss} {De' : Ends} (h : RQ T W fz ph H De (r.then k)) (hn : ∀ ρ st fz' ph' σ' H', Ext fz ph H fz' ph' H' → SOk T fz' ph' st H' → EOk T fz' ph' ρ σ' → RQ T W fz' ph' H' De (k ρ st) → De'.nx σ' H')
    (h1 : De'.rt = De.rt) (h2 : De'.bk = De.bk) (h3 : De'.ct = De.ct) : RQ T W fz ph H De' r := by
  cases r with
  | nx ρ st => exact fun f p σ' H' x s q => hn ρ st f p σ' H' x s q (RQ.ext (r := k ρ st) h x)
  | rt d st => intro f p H' u x s q; rw [h1]; exact h f p H' u x s q
  | bk ρ st => intro f p σ' H' x s q; rw [h2]; exact h f p σ' H' x s q
  | ct ρ st => intro f p σ' H' x s q; rw [h3]; exact h f p σ' H' x s q
  | ex c fs ρ st => exact h
  | stuck => exact h
end
/-- a context of statements -/
structure CtxS (c : Cd) (sc : Scope) (X : Cx) : Prop where
  ctx : Ctx c true sc X
  fn : ∀ x, X.fn x = true
  st : X.stack = X.env :: X.outer
  fr : X.env.frame = some X.env.locals
  bk : X.env.blockKind = .function
def SS (c : Cd) (sc : Scope) (s : Stmt) (f : Ss) : Prop := ∀ X W, CtxS c sc X → Takes X W → PassesOwn (model X.prog X.w) X.A X.env X.xe → PS X s (tS c.T W f)
def SSs (c : Cd) (sc : Scope) (s : List Stmt) (f : Ss) : Prop := ∀ X W, CtxS c sc X → Takes X W → PassesOwn (model X.prog X.w) X.A X.env X.xe → PSs X s (tS c.T W f)
theorem psI {X : Cx} {e : Stmt} {t u : TS} (h : PS X e t) (i : ∀ De σ H, u De σ H → t De σ H) : PS X e u := ⟨fun pins s σ H De I q => h.run pins s σ H De I (i De σ H q)⟩
theorem pssI {X : Cx} {e : List Stmt} {t u : TS} (h : PSs X e t) (i : ∀ De σ H, u De σ H → t De σ H) : PSs X e u := ⟨fun pins s σ H De I q => h.run pins s σ H De I (i De σ H q)⟩
section
variable {c : Cd} {cm : Bool} {sc : Scope} {a b : PySem.Expr} {es : List PySem.Expr} {fa fb fk : Sh} {fs : List Sh} {pos p2 : Pos} {s1 : Stmt} {ss ss2 : List Stmt} {f1 f2 : Ss}
theorem ss_nil : SSs c sc [] .nx := fun X W hX tk hp => pssI pss_nil fun De σ H ⟨fz, ph, ρ, st, s, e, h⟩ => h fz ph σ H (.refl _ _ _) s e
theorem ss_cons (h1 : SS c sc s1 f1) (h2 : SSs c sc ss f2) : SSs c sc (s1 :: ss) (fun ρ st => (f1 ρ st).then f2) := fun X W hX tk hp =>
  pssI (pss_cons (h1 X W hX tk hp) (h2 X W hX tk hp)) fun De σ H ⟨fz, ph, ρ, st, s, e, h⟩ =>
    ⟨fz, ph, ρ, st, s, e, RQ.then (De' := { De with nx := tS c.T W f2 De }) h (fun ρ st fz' ph' σ' H' x s' e' q => ⟨fz', ph', ρ, st, s', e', q⟩) rfl rfl rfl⟩
theorem ss_one (h1 : SS c sc s1 f1) : SSs c sc [s1] f1 := fun X W hX tk hp => pss_one (h1 X W hX tk hp)
theorem ss_never : SS c sc s1 (fun _ _ => .stuck) := fun X W hX tk hp => psI ps_never fun De σ H ⟨fz, ph, ρ, st, s, e, h⟩ => h
theorem sss_never : SSs c sc ss (fun _ _ => .stuck) := fun X W hX tk hp => pssI pss_never fun De σ H ⟨fz, ph, ρ, st, s, e, h⟩ => h
def swaps : PySem.Expr → Bool
  | .ListComp _ _ _ _ => true
  | .SetComp _ _ _ _ => true
  | .DictComp _ _ _ _ _ => true
  | _ => false
theorem swaps_no {e : PySem.Expr} {t : Option PySem.Expr} {l : Nat} {env : PySem.Env} (h : swaps e = false) : swapsWith e t l env = pure false := by
  cases e <;> first | rfl | exact Bool.noConfusion h
theorem ss_expr (ha : SE c true sc a fa) (hs : swaps a = false) : SS c sc (.Expr a pos) (fun ρ st => (fa ρ st).toS ρ fun _ st => .nx ρ st) := fun X W hX tk hp =>
  psI (ps_expr (ha X W hX.ctx tk) (swaps_no hs)) fun De σ H h => tS.step (k := fun _ ρ st => .nx ρ st) h fun d ρ st fz ph H1 u s e r q => q fz ph σ H1 (.refl _ _ _) s e
theorem ss_doc {x j p} : SS c sc (.Expr (.Constant (.str x) j p) pos) .nx := fun X W hX tk hp => psI ps_doc fun De σ H ⟨fz, ph, ρ, st, s, e, h⟩ => h fz ph σ H (.refl _ _ _) s e
theorem ss_ret (ha : SE c true sc a fa) : SS c sc (.Return (some a) pos) (fun ρ st => (fa ρ st).toS ρ .rt) := fun X W hX tk hp =>
  psI (ps_ret (ha X W hX.ctx tk)) fun De σ H h => tS.step (k := fun d _ st => .rt d st) h fun d ρ st fz ph H1 u s e r q => q fz ph H1 u (.refl _ _ _) s r
theorem ss_retN : SS c sc (.Return none pos) (fun _ st => .rt .non st) := fun X W hX tk hp =>
  psI ps_retN fun De σ H ⟨fz, ph, ρ, st, s, e, h⟩ => h fz ph H .non (.refl _ _ _) s (by simp only [Rep])
theorem ss_pass : SS c sc (.Pass pos) .nx := fun X W hX tk hp => psI ps_pass fun De σ H ⟨fz, ph, ρ, st, s, e, h⟩ => h fz ph σ H (.refl _ _ _) s e
theorem ss_break : SS c sc (.Break pos) .bk := fun X W hX tk hp => psI ps_break fun De σ H ⟨fz, ph, ρ, st, s, e, h⟩ => h fz ph σ H (.refl _ _ _) s e
theorem ss_cont : SS c sc (.Continue pos) .ct := fun X W hX tk hp => psI ps_continue fun De σ H ⟨fz, ph, ρ, st, s, e, h⟩ => h fz ph σ H (.refl _ _ _) s e
def stIf (t : Sh) (f g : Ss) : Ss := fun ρ st => (t ρ st).toS ρ fun d st => match d with
  | .bl true => f ρ st
  | .bl false => g ρ st
  | _ => .stuck
theorem ss_if {t : PySem.Expr} {ft : Sh} (ht : ST c true sc t ft) (ha : SSs c sc ss f1) (hb : SSs c sc ss2 f2) : SS c sc (.If t ss ss2 pos) (stIf ft f1 f2) := fun X W hX tk hp =>
  psI (ps_if (ht X W hX.ctx tk) (ha X W hX tk hp) (hb X W hX tk hp)) fun De σ H h => tS.step (k := fun d ρ st => match d with
    | .bl true => f1 ρ st
    | .bl false => f2 ρ st
    | _ => .stuck) h fun d ρ st fz ph H1 x s e rx q => by
      cases d <;> try exact q.elim
      rename_i k
      refine ⟨k, rep_bl rx, ?_⟩
      cases k with
      | true => exact ⟨fz, ph, ρ, st, s, e, q⟩
      | false => exact ⟨fz, ph, ρ, st, s, e, q⟩
/-! ### targets -/
abbrev Gs := D → Ss
def locB (sc : Scope) (x : Str) : Bool := match sc.names.lookup x with
  | some .local => true
  | some .cell => true
  | _ => false
theorem locB_ok {x : Str} (h : locB sc x = true) : L2.Loc sc x := by
  unfold locB at h
  unfold L2.Loc
  split at h <;> simp_all
def tG (T : Pa) (W : WX) (g : Gs) : TG := fun v σ H Q => ∃ fz ph ρ st d, SOk T fz ph st H ∧ EOk T fz ph ρ σ ∧ Rep T.K T.L fz ph d v ∧ RQ T W fz ph H { nx := Q, rt := fun _ _ => False } (g d ρ st)
def SG (c : Cd) (sc : Scope) (tg : PySem.Expr) (g : Gs) : Prop := ∀ X W, CtxS c sc X → Takes X W → PG X tg (tG c.T W g)
theorem pgI {X : Cx} {e : PySem.Expr} {t u : TG} (h : PG X e t) (i : ∀ v σ H Q, u v σ H Q → t v σ H Q) : PG X e u := ⟨fun pins s σ H v w Q I r q => h.run pins s σ H v w Q I r (i v σ H Q q)⟩
def gVar (i : Nat) : Gs := fun d ρ st => .nx (ρ.set i (.v d)) st
theorem EOk.set {T : Pa} {fz : Hp} {ph : List Addr} {ρ : Env} {σ : L2.St} (e : EOk T fz ph ρ σ) {i : Nat} {d : D} {v : V} (r : Rep T.K T.L fz ph d v) : EOk T fz ph (ρ.set i (.v d)) (σ.set i (some v)) where
  len := by rw [List.length_set, List.length_set]; exact e.len
  sl := fun j s u h1 h2 => by
    by_cases q : i = j
    · subst q
      have l1 : i < ρ.length := by have := (List.getElem?_eq_some_iff.mp h1).1; simpa using this
      have l2 : i < σ.length := by have := e.len; omega
      rw [List.getElem?_set_self l1] at h1
      rw [List.getElem?_set_self l2] at h2
      cases h1
      cases h2
      exact ⟨v, rfl, r⟩
    · rw [List.getElem?_set_ne q] at h1 h2
      exact e.sl j s u h1 h2
theorem sg_var {i : Nat} {x : Str} (hi : c.N[i]? = some x) (hx : locB sc x = true) : SG c sc (.Name x pos) (gVar i) := fun X W hX tk =>
  pgI (pg_name (by rw [hX.ctx.N]; exact hX.ctx.nd) (by rw [hX.ctx.N]; exact hi) (by rw [hX.ctx.sc]; exact locB_ok hx) (.inl (hX.fn x))) fun v σ H Q ⟨fz, ph, ρ, st, d, s, e, r, q⟩ =>
    q fz ph _ H (.refl _ _ _) s (e.set r)
theorem ss_set {i : Nat} {x : Str} {pp : Pos} (hi : c.N[i]? = some x) (hx : locB sc x = true) (ha : SE c true sc a fa) (hs : swaps a = false) : SS c sc (.Assign [.Name x pp] a pos) (fun ρ st => (fa ρ st).toS ρ fun d st => gVar i d ρ st) := fun X W hX tk hp =>
  psI (ps_set (by rw [hX.ctx.N]; exact hX.ctx.nd) (by rw [hX.ctx.N]; exact hi) (by rw [hX.ctx.sc]; exact locB_ok hx) (ha X W hX.ctx tk) (swaps_no hs) (.inl (hX.fn x))) fun De σ H h =>
    tS.step (k := fun d ρ st => gVar i d ρ st) h fun d ρ st fz ph H1 u s e r q => q fz ph _ H1 (.refl _ _ _) s (e.set r)
end
end DV

namespace DV
open PySem PySem.Spec PyProof.Rows L2

/-! ### targets -/
theorem tG_of {T : Pa} {W : WX} {g : Gs} {v : V} {σ : L2.St} {H : Hp} {Q : L2.St → Hp → Prop} {fz : Hp} {ph : List Addr} {ρ : Env} {st : Store} {d : D} (s : SOk T fz ph st H) (e : EOk T fz ph ρ σ) (r : Rep T.K T.L fz ph d v)
    (h : RQ T W fz ph H { nx := Q, rt := fun _ _ => False } (g d ρ st)) : tG T W g v σ H Q := ⟨fz, ph, ρ, st, d, s, e, r, h⟩
/-- what a target may answer -/
def gOnly : RS → RS
  | .nx ρ st => .nx ρ st
  | .ex c fs ρ st => .ex c fs ρ st
  | _ => .stuck
def okTg : PySem.Expr → Bool
  | .Name _ _ => true
  | .Subscript _ _ _ => true
  | .Attribute _ _ _ => true
  | .Tuple _ _ _ => true
  | _ => false
def gsN : List Gs → List D → Ss
  | [], [], ρ, st => .nx ρ st
  | g :: gs, d :: ds, ρ, st => (gOnly (g d ρ st)).then (gsN gs ds)
  | _, _, _, _ => .stuck
def tGs (T : Pa) (W : WX) (gs : List Gs) : TGs := fun vs σ H Q => ∃ fz ph ρ st ds, SOk T fz ph st H ∧ EOk T fz ph ρ σ ∧ Reps T.K T.L fz ph ds vs ∧ RQ T W fz ph H { nx := Q, rt := fun _ _ => False } (gsN gs ds ρ st)
def SGs (c : Cd) (sc : Scope) (tgs : List PySem.Expr) (gs : List Gs) : Prop := (tgs.all okTg = true ∧ gs.length = tgs.length) ∧ ∀ X W, CtxS c sc X → Takes X W → PGs X tgs (tGs c.T W gs)
theorem pgsI {X : Cx} {e : List PySem.Expr} {t u : TGs} (h : PGs X e t) (i : ∀ v σ H Q, u v σ H Q → t v σ H Q) : PGs X e u := ⟨fun pins s σ H v w Q I r q => h.run pins s σ H v w Q I r (i v σ H Q q)⟩
theorem each_ok {e : PySem.Expr} {es : List PySem.Expr} {env : PySem.Env} (h : okTg e = true) : assignEach (e :: es) env = (false, assign e env) :: assignEach es env := by
  cases e <;> first | rfl | exact Bool.noConfusion h
theorem each_len {env : PySem.Env} : ∀ {es : List PySem.Expr}, es.all okTg = true → (assignEach es env).length = es.length ∧ (assignEach es env).findIdx? (·.1) = none
  | [], _ => ⟨rfl, rfl⟩
  | e :: es, h => by
    simp only [List.all_cons, Bool.and_eq_true] at h
    obtain ⟨h1, h2⟩ := each_len (env := env) h.2
    rw [each_ok h.1]
    refine ⟨by simp [h1], ?_⟩
    rw [List.findIdx?_cons]
    simp [h2]
theorem gOnly_mono {T : Pa} {W : WX} {fz H : Hp} {ph : List Addr} {Q : L2.St → Hp → Prop} {r : RS} {De : Ends} (hq : De.nx = Q) (h : RQ T W fz ph H De (gOnly r)) : RQ T W fz ph H { nx := Q, rt := fun _ _ => False } r := by
  subst hq
  cases r with
  | nx ρ st => exact h
  | ex c fs ρ st => exact h
  | _ => exact h.elim
section
variable {c : Cd} {cm : Bool} {sc : Scope} {a b tg : PySem.Expr} {es tgs : List PySem.Expr} {fa fb fk : Sh} {fs : List Sh} {pos p2 : Pos} {s1 : Stmt} {ss ss2 : List Stmt} {f1 f2 : Ss} {g : Gs} {gs : List Gs}
theorem sgs_nil : SGs c sc [] [] := ⟨⟨rfl, rfl⟩, fun X W hX tk => pgsI pgs_nil fun vs σ H Q ⟨fz, ph, ρ, st, ds, s, e, r, h⟩ => by
  cases ds with
  | nil => exact ⟨reps0 r, h fz ph σ H (.refl _ _ _) s e⟩
  | cons d ds => exact h.elim⟩
theorem sgs_cons (hg : SG c sc tg g) (hgs : SGs c sc tgs gs) (ht : okTg tg = true) : SGs c sc (tg :: tgs) (g :: gs) := ⟨⟨by simp only [List.all_cons, ht, hgs.1.1, Bool.and_self], by simp [hgs.1.2]⟩, fun X W hX tk =>
  pgsI (pgs_cons (hg X W hX tk) (hgs.2 X W hX tk) (by rw [each_ok ht]; rfl)) fun vs σ H Q ⟨fz, ph, ρ, st, ds, s, e, r, h⟩ => by
    cases ds with
    | nil => exact h.elim
    | cons d ds =>
      simp only [Reps] at r
      obtain ⟨v, q, e1, r1, r2⟩ := r
      subst e1
      refine ⟨v, q, rfl, tG_of s e r1 ?_⟩
      have h : RQ c.T W fz ph H { nx := Q, rt := fun _ _ => False } ((gOnly (g d ρ st)).then (gsN gs ds)) := h
      refine gOnly_mono (De := { nx := fun σ' H' => tGs c.T W gs q σ' H' Q, rt := fun _ _ => False }) rfl (RQ.then h (fun ρ1 st1 fz1 ph1 σ1 H1 x1 s1 e1 q1 => ⟨fz1, ph1, ρ1, st1, ds, s1, e1, Reps.more x1.more ds q r2, q1⟩) rfl rfl rfl)⟩
def gTupP (gs : List Gs) : Gs := fun d ρ st => match d with
  | .tup ds => if ds.length = gs.length then gsN gs ds ρ st else .stuck
  | _ => .stuck
theorem sg_tup {k : Nat} (hgs : SGs c sc tgs gs) : SG c sc (.Tuple tgs k pos) (gTupP gs) := fun X W hX tk =>
  pgI (pg_tup (n := tgs.length) (hX.ctx.calm rfl).1 (hgs.2 X W hX tk) (each_len hgs.1.1).1 (each_len hgs.1.1).2) fun v σ H Q ⟨fz, ph, ρ, st, d, s, e, r, h⟩ => by
    cases d <;> try exact h.elim
    rename_i ds
    have h : RQ c.T W fz ph H { nx := Q, rt := fun _ _ => False } (if ds.length = gs.length then gsN gs ds ρ st else .stuck) := h
    by_cases z : ds.length = gs.length
    · rw [if_pos z] at h
      obtain ⟨a, vs, e1, ha, ra⟩ := rep_tup r
      exact ⟨a, vs, e1, by rw [hX.ctx.K]; exact s.sqT ha, by rw [← ra.length, z, hgs.1.2], fz, ph, ρ, st, ds, s, e, ra, h⟩
    · rw [if_neg z] at h; exact h.elim
/-- o[i] = v -/
def putP (d e x : D) (st : Store) : R D := match d, e with
  | .ref l, .int k => (match st[l]? with
    | some (.lst xs) => (match ixN xs.length k with
      | some j => .ok .non (st.set l (.lst (xs.set j x)))
      | none => .stuck)
    | _ => .stuck)
  | _, _ => .stuck
def gSubP (f g : Sh) : Gs := fun x ρ st => (f ρ st).toS ρ fun d st => (g ρ st).toS ρ fun e st => (putP d e x st).toS ρ fun _ st => .nx ρ st
theorem put_ok {T : Pa} {fz H : Hp} {ph : List Addr} {st : Store} {d e x : D} {u v w : V} {st' : Store} {Q : Hp → Prop} (s : SOk T fz ph st H) (rd : Rep T.K T.L fz ph d u) (re : Rep T.K T.L fz ph e v) (rx : Rep T.K T.L fz ph x w) (h : putP d e x st = .ok .non st')
    (hq : ∀ H', Ext fz ph H fz ph H' → SOk T fz ph st' H' → Q H') : rSetL u v w H Q := by
  have hd : (∃ l, d = .ref l) ∧ ∃ k, e = .int k := by
    unfold putP at h
    split at h
    · exact ⟨⟨_, rfl⟩, ⟨_, rfl⟩⟩
    · cases h
  obtain ⟨⟨l, rfl⟩, ⟨k, rfl⟩⟩ := hd
  obtain ⟨a, e1, hp⟩ := rep_ref rd
  have h : (match st[l]? with
    | some (.lst xs) => (match ixN xs.length k with
      | some j => (R.ok .non (st.set l (MO.lst (xs.set j x))) : R D)
      | none => .stuck)
    | _ => .stuck) = .ok .non st' := h
  cases q : st[l]? with
  | none => rw [q] at h; cases h
  | some o =>
    rw [q] at h
    cases o with
    | lst xs =>
      have h : (match ixN xs.length k with
        | some j => (R.ok .non (st.set l (MO.lst (xs.set j x))) : R D)
        | none => .stuck) = .ok .non st' := h
      cases q2 : ixN xs.length k with
      | none => rw [q2] at h; cases h
      | some j =>
        rw [q2] at h
        cases h
        obtain ⟨vs, hv, rv⟩ := s.mem l _ a q hp
        exact ⟨a, vs, k, j, e1, rep_int re, hv, by rw [← rv.length]; exact q2, hq _ (Ext.put s hp) (s.put q hp rfl ⟨_, upd_same, rv.set j rx⟩)⟩
    | _ => cases h
theorem putP_non {d e x y : D} {st st' : Store} (h : putP d e x st = .ok y st') : y = .non := by
  unfold putP at h
  repeat (first | (split at h) | (cases h; rfl) | (cases h))
theorem putP_ex {d e x : D} {st st' : Store} {c : Str} {fs : List (Str × D)} (h : putP d e x st = .ex c fs st') : False := by
  unfold putP at h
  repeat (first | (split at h) | (cases h))
theorem sg_sub (ha : SE c true sc a fa) (hb : SE c true sc b fb) (hi : plainIxB b = true) : SG c sc (.Subscript a b pos) (gSubP fa fb) := fun X W hX tk =>
  pgI (pg_sub (ha X W hX.ctx tk) (hb X W hX.ctx tk) set_list (by cases b <;> first | (intro _; rfl) | exact Bool.noConfusion hi)) fun v σ H Q ⟨fz, ph, ρ, st, d, s, e, r, h⟩ =>
    ⟨fz, ph, ρ, st, s, e, RQ.step (k := fun y st => (fb ρ st).toS ρ fun e st => (putP y e d st).toS ρ fun _ st => .nx ρ st) e h fun d1 st1 fz1 ph1 H1 u1 x1 s1 e1 r1 q1 =>
      ⟨fz1, ph1, ρ, st1, s1, e1, RQ.step (k := fun z st => (putP d1 z d st).toS ρ fun _ st => .nx ρ st) e1 q1 fun d2 st2 fz2 ph2 H2 u2 x2 s2 e2 r2 q2 => by
        cases q : putP d1 d2 d st2 with
        | stuck => rw [q] at q2; exact q2.elim
        | ex c fs st3 => exact (putP_ex q).elim
        | ok y st3 =>
          have hy := putP_non q
          subst hy
          rw [q] at q2
          exact put_ok s2 (Rep.more x2.more d1 u1 r1) r2 (Rep.more (x1.trans x2).more d v r) q fun H3 x3 s3 => q2 fz2 ph2 σ H3 x3 s3 e2⟩⟩
/-- target = value -/
theorem ss_asg (ha : SE c true sc a fa) (hg : SG c sc tg g) (ht : okTg tg = true) (hs : swaps a = false) (hw : ∀ X, CtxS c sc X → swappedStores [tg] a X.env = pure none) :
    SS c sc (.Assign [tg] a pos) (fun ρ st => (fa ρ st).toS ρ fun d st => gOnly (g d ρ st)) := fun X W hX tk hp =>
  psI (ps_asg (ha X W hX.ctx tk) (hg X W hX tk) (by show swapsWith a (some tg) pos.line X.env = pure false; exact swaps_no hs) (hw X hX) (by rw [each_ok ht]; rfl)) fun De σ H h =>
    tS.step (k := fun d ρ st => gOnly (g d ρ st)) h fun d ρ st fz ph H1 u s e r q => tG_of s e r (gOnly_mono rfl q)
def notTup : PySem.Expr → Bool
  | .Tuple _ _ _ => false
  | .List _ _ => false
  | _ => true
theorem sw_one {tg : PySem.Expr} {e : PySem.Expr} {env : PySem.Env} (h : notTup tg = true) : swappedStores [tg] e env = pure none := by
  cases tg <;> first | rfl | exact Bool.noConfusion h
theorem sw_val {tg : PySem.Expr} {e : PySem.Expr} {env : PySem.Env} (h : notTup e = true) : swappedStores [tg] e env = pure none := by
  cases e <;> first | exact Bool.noConfusion h | (cases tg <;> rfl)
def locN (sc : Scope) : PySem.Expr → Option Str
  | .Name id _ => if sc.names.lookup id == some .local then some id else none
  | _ => none
def noSwap (sc : Scope) : PySem.Expr → PySem.Expr → Bool
  | .Tuple ts _ _, .Tuple vs _ _ => decide ((ts.filterMap (locN sc)).length < ts.length) || vs.all (foldedForSure 8)
  | _, _ => false
theorem fm_le {α β : Type} {f g : α → Option β} (h : ∀ a, (f a).isSome = true → (g a).isSome = true) : ∀ l : List α, (l.filterMap f).length ≤ (l.filterMap g).length
  | [] => Nat.le_refl _
  | a :: l => by
    have ih := fm_le h l
    have h1 := h a
    rw [List.filterMap_cons, List.filterMap_cons]
    cases q : f a with
    | none =>
      cases g a with
      | none => exact ih
      | some b => exact Nat.le_succ_of_le ih
    | some b =>
      rw [q] at h1
      cases q2 : g a with
      | none => rw [q2] at h1; exact absurd (h1 rfl) (by simp)
      | some b2 => exact Nat.succ_le_succ ih
theorem sw_no {tg e : PySem.Expr} {sc : Scope} {env : PySem.Env} (hs : env.scope = sc) (h : noSwap sc tg e = true) : swappedStores [tg] e env = pure none := by
  unfold noSwap at h
  split at h
  · rename_i ts k p vs k2 p2
    unfold swappedStores
    dsimp only
    split
    · rfl
    · split
      · rfl
      · split
        · rfl
        · rename_i hn
          split
          · rfl
          · rename_i hf
            exfalso
            rcases Bool.or_eq_true_iff.mp h with h | h
            · have lt := of_decide_eq_true h
              simp only [Bool.or_eq_true, not_or, bne_iff_ne, ne_eq, Decidable.not_not] at hn
              have e1 := hn.1
              rw [← e1] at lt
              refine absurd lt (Nat.not_lt_of_le (fm_le (fun a ha => ?_) ts))
              cases a with
              | Name x px =>
                show (if (sc.names.lookup x == some NameKind.local) = true then some x else none).isSome = true
                have e2 : env.kindOf x = sc.names.lookup x := by
                  unfold Env.kindOf
                  rw [hs]
                simp only [e2] at ha
                cases q : (sc.names.lookup x == some NameKind.local) with
                | true => rfl
                | false => rw [q] at ha; exact Bool.noConfusion ha
              | _ => exact Bool.noConfusion ha
            · exact hf h
  · cases h
end

/-! ### a = x, b = y at once -/
def parC (sc : Scope) (x y : Str) (px py : Pos) (a b : PySem.Expr) : Bool :=
  (match sc.names.lookup x with | some .local => true | _ => false) && (match sc.names.lookup y with | some .local => true | _ => false) && (px.line == py.line) && notStar a && notStar b && !([x, y].eraseDups.length != 2)
    && !([a, b].all (foldedForSure 8)) && !([a, b].all (constantsAlone 8))
theorem par_sw {c : Cd} {sc : Scope} {X : Cx} {x y : Str} {px py pt pt2 : Pos} {kt k2} {a b : PySem.Expr} (hX : CtxS c sc X) (h : parC sc x y px py a b = true) :
    swappedStores [.Tuple [.Name x px, .Name y py] kt pt] (.Tuple [a, b] k2 pt2) X.env = pure (some [x, y]) := by
  unfold parC at h
  simp only [Bool.and_eq_true] at h
  obtain ⟨⟨⟨⟨⟨⟨⟨h1, h2⟩, h3⟩, h4⟩, h5⟩, h6⟩, h7⟩, h8⟩ := h
  have e1 : X.env.kindOf x = some .local := by
    unfold Env.kindOf
    rw [hX.ctx.sc]
    split at h1 <;> simp_all
  have e2 : X.env.kindOf y = some .local := by
    unfold Env.kindOf
    rw [hX.ctx.sc]
    split at h2 <;> simp_all
  have e3 : px.line = py.line := eq_of_beq h3
  have n1 : ([a, b].any fun | .Starred .. => true | _ => false) = false := by
    cases a <;> first | exact Bool.noConfusion h4 | (cases b <;> first | exact Bool.noConfusion h5 | rfl)
  unfold swappedStores
  simp only [hX.bk, List.length_cons, List.length_nil, List.head?_cons, Option.map_some, Option.getD_some]
  simp only [Expr.pos, e1, e2, e3, List.filterMap_cons, List.filterMap_nil, beq_self_eq_true, Bool.and_self, if_true]
  have h6' : ([x, y].eraseDups.length != [x, y].length) = false := by show ([x, y].eraseDups.length != 2) = false; revert h6; cases ([x, y].eraseDups.length != 2) <;> simp
  have h7' : ([a, b].all (foldedForSure 8)) = false := by revert h7; cases ([a, b].all (foldedForSure 8)) <;> simp
  have h8' : ([a, b].all (constantsAlone 8)) = false := by revert h8; cases ([a, b].all (constantsAlone 8)) <;> simp
  refine (if_neg (by decide)).trans ?_
  refine (if_neg (fun hh => Bool.noConfusion (n1.symm.trans hh))).trans ?_
  refine (if_neg (by rw [h6']; simp)).trans ?_
  rw [h7', h8']
  rfl
section
variable {c : Cd} {sc : Scope} {a b : PySem.Expr} {fa fb : Sh} {pos : Pos} {fs : List Sh}
def parP (i j : Nat) (fa fb : Sh) : Ss := fun ρ st => (fa ρ st).toS ρ fun d st => (fb ρ st).toS ρ fun e st => .nx ((ρ.set i (.v d)).set j (.v e)) st
theorem ss_par {i j : Nat} {x y : Str} {px py pt pt2 : Pos} {kt k2 : Nat} (hi : c.N[i]? = some x) (hj : c.N[j]? = some y) (hij : i ≠ j) (ha : SE c true sc a fa) (hb : SE c true sc b fb) (h : parC sc x y px py a b = true) (hx : sc.names.lookup x = some .local) (hy : sc.names.lookup y = some .local)
    (hs : SA c true sc [a, b] [fa, fb]) : SS c sc (.Assign [.Tuple [.Name x px, .Name y py] kt pt] (.Tuple [a, b] k2 pt2) pos) (parP i j fa fb) := fun X W hX tk hp =>
  psI (ps_par (hX.ctx.calm rfl).1 (by rw [hX.ctx.N]; exact hX.ctx.nd) (by rw [hX.ctx.N]; exact hi) (by rw [hX.ctx.N]; exact hj) hij (by rw [hX.ctx.sc]; exact hx) (by rw [hX.ctx.sc]; exact hy) (hs.2 X W hX.ctx tk) (par_sw hX h)) fun De σ H ⟨fz, ph, ρ, st, s, e, h⟩ => by
    have h : RQ c.T W fz ph H De ((fa ρ st).toS ρ fun d st => (fb ρ st).toS ρ fun e st => .nx ((ρ.set i (.v d)).set j (.v e)) st) := h
    refine ⟨fz, ph, ρ, st, s, e, ?_⟩
    have h2 : RP c.T W fz ph σ H (fun u H1 => True) (.ok .non []) := fun _ _ _ _ _ _ _ => True.intro
    show RPs c.T W fz ph σ H _ ((fa ρ st).bind fun d st => ((fb ρ st).bind fun e st => R.ok [e] st).bind fun ds st => .ok (d :: ds) st)
    cases q : fa ρ st with
    | stuck => rw [q] at h; exact h.elim
    | ex c fs st1 => rw [q] at h; exact fun f p H' cls d x s' q => h f p σ H' cls d x s' (e.ext x) q
    | ok d st1 =>
      rw [q] at h
      have h : RQ c.T W fz ph H De ((fb ρ st1).toS ρ fun e st => .nx ((ρ.set i (.v d)).set j (.v e)) st) := h
      show RPs c.T W fz ph σ H _ (((fb ρ st1).bind fun e st => R.ok [e] st).bind fun ds st => .ok (d :: ds) st)
      cases q2 : fb ρ st1 with
      | stuck => rw [q2] at h; exact h.elim
      | ex c fs st2 => rw [q2] at h; exact fun f p H' cls d x s' q => h f p σ H' cls d x s' (e.ext x) q
      | ok d2 st2 =>
        rw [q2] at h
        have h : RQ c.T W fz ph H De (.nx ((ρ.set i (.v d)).set j (.v d2)) st2) := h
        show RPs c.T W fz ph σ H _ (.ok [d, d2] st2)
        intro f p H' us x s' r
        obtain ⟨u, v, e1, r1, r2⟩ := reps2 r
        exact ⟨u, v, e1, h f p _ H' x s' (((e.ext x).set r1).set r2)⟩
end
end DV

namespace DV
open PySem PySem.Spec PyProof.Rows L2

/-! ### what is walked -/
structure ItOk (T : Pa) (J : It) (ds : List D) (fz0 : Hp) (ph0 : List Addr) : Prop where
  go : ∀ (i : Nat) (fz H : Hp) (ph : List Addr) (st : Store), More fz0 ph0 fz ph → SOk T fz ph st H → i < ds.length → J.go i H
  yld : ∀ (i : Nat) (d : D) (fz H : Hp) (ph : List Addr) (st : Store) (x : V) (H' : Hp), More fz0 ph0 fz ph → SOk T fz ph st H → ds[i]? = some d → J.yld i H x H' → ∃ fz' ph', Ext fz ph H fz' ph' H' ∧ SOk T fz' ph' st H' ∧ Rep T.K T.L fz' ph' d x
  stop : ∀ (fz H : Hp) (ph : List Addr) (st : Store), More fz0 ph0 fz ph → SOk T fz ph st H → J.stop ds.length H
def RI (T : Pa) (W : WX) (fz : Hp) (ph : List Addr) (σ : L2.St) (H : Hp) (Q : It → Hp → Prop) (r : R (List D)) : Prop :=
  match r with
  | .ok ds st => ∀ fz' ph' H' J, Ext fz ph H fz' ph' H' → SOk T fz' ph' st H' → ItOk T J ds fz' ph' → Q J H'
  | .ex c fs st => ∀ fz' ph' H' cls d, Ext fz ph H fz' ph' H' → SOk T fz' ph' st H' → XOk T fz' ph' H' c fs cls d → W cls d σ H'
  | .stuck => False
def tI (T : Pa) (W : WX) (fi : Env → Store → R (List D)) : TI := fun σ H Q => ∃ fz ph ρ st, SOk T fz ph st H ∧ EOk T fz ph ρ σ ∧ RI T W fz ph σ H Q (fi ρ st)
def SI (c : Cd) (cm : Bool) (sc : Scope) (tg iter : PySem.Expr) (fi : Env → Store → R (List D)) : Prop := ∀ X W, Ctx c cm sc X → Takes X W → PI X tg iter (tI c.T W fi)
theorem piI {X : Cx} {tg e : PySem.Expr} {t u : TI} (h : PI X tg e t) (i : ∀ σ H Q, u σ H Q → t σ H Q) : PI X tg e u := ⟨fun pins s σ H Q I q => h.run pins s σ H Q I (i σ H Q q)⟩
theorem pi_or {X : Cx} {tg e : PySem.Expr} {t u : TI} (h : PI X tg e t) (h' : PI X tg e u) : PI X tg e (fun σ H Q => t σ H Q ∨ u σ H Q) := ⟨fun pins s σ H Q I q => by
  rcases q with q | q
  · exact h.run pins s σ H Q I q
  · exact h'.run pins s σ H Q I q⟩
section
variable {T : Pa} {fz fz' H H' : Hp} {ph ph' : List Addr} {st : Store} {σ : L2.St} {W : WX} {ρ : Env}
/-- an expression, then what is walked -/
theorem RI.step {r : R D} {k : D → Store → R (List D)} {Q : It → Hp → Prop} {Q' : VK} (h : RI T W fz ph σ H Q (r.bind k))
    (hk : ∀ d st fz' ph' H' u, Ext fz ph H fz' ph' H' → SOk T fz' ph' st H' → Rep T.K T.L fz' ph' d u → (∀ ds st', k d st = .ok ds st' → ∀ fz2 ph2 H2 J, Ext fz' ph' H' fz2 ph2 H2 → SOk T fz2 ph2 st' H2 → ItOk T J ds fz2 ph2 → Q J H2) → (∃ ds st', k d st = .ok ds st') → Q' u H')
    (hx : ∀ d st c fs st', k d st ≠ .ex c fs st') : RP T W fz ph σ H Q' r := by
  cases r with
  | ok d st' =>
    have h : RI T W fz ph σ H Q (k d st') := h
    intro f p H' u x s' r'
    cases q : k d st' with
    | ok ds st2 =>
      rw [q] at h
      exact hk d st' f p H' u x s' r' (fun ds' st3 e fz2 ph2 H2 J x2 s2 i2 => by rw [q] at e; cases e; exact h fz2 ph2 H2 J (x.trans x2) s2 i2) ⟨ds, st2, q⟩
    | ex c fs st2 => exact (hx _ _ _ _ _ q).elim
    | stuck => rw [q] at h; exact h.elim
  | ex c fs st' => exact h
  | stuck => exact h
theorem it_list {K : PySem.W.Frag} {L : Lams} {tabs : List (Addr × Str)} {hx : Option (Addr × Str)} {a : Addr} {vs : List V} {ds : List D} (ha : Rd fz a (.lst vs)) (r : Reps K L fz ph ds vs) : ItOk ⟨K, L, tabs, hx⟩ (Itl K a) ds fz ph where
  go := fun i fz1 H1 ph1 st1 m s hi => by
    have h1 : SqL K H1 a vs := .inl (s.rd (rd_more m.fz ha))
    have hl := Reps.length (T := ⟨K, L, tabs, hx⟩) r
    exact ⟨vs, vs[i], h1, by simp⟩
  yld := fun i d fz1 H1 ph1 st1 x H' m s hd y => by
    obtain ⟨e, y⟩ := y
    subst e
    obtain ⟨u, hu, ru⟩ := Reps.get (T := ⟨K, L, tabs, hx⟩) r hd
    have := y vs (.inl (s.rd (rd_more m.fz ha)))
    rw [hu] at this
    cases this
    exact ⟨fz1, ph1, .refl _ _ _, s, Rep.more m d _ ru⟩
  stop := fun fz1 H1 ph1 st1 m s => ⟨vs, .inl (s.rd (rd_more m.fz ha)), by rw [Reps.length (T := ⟨K, L, tabs, hx⟩) r]; exact Nat.le_refl _⟩
theorem it_tup {K : PySem.W.Frag} {L : Lams} {tabs : List (Addr × Str)} {hx : Option (Addr × Str)} {a : Addr} {vs : List V} {ds : List D} (ha : SqT K fz a vs) (r : Reps K L fz ph ds vs) : ItOk ⟨K, L, tabs, hx⟩ (Itt K a) ds fz ph where
  go := fun i fz1 H1 ph1 st1 m s hi => by
    have h1 : SqT K H1 a vs := s.sqT (sqT_more m.fz ha)
    have hl := Reps.length (T := ⟨K, L, tabs, hx⟩) r
    exact ⟨vs, vs[i], h1, by simp⟩
  yld := fun i d fz1 H1 ph1 st1 x H' m s hd y => by
    obtain ⟨e, y⟩ := y
    subst e
    obtain ⟨u, hu, ru⟩ := Reps.get (T := ⟨K, L, tabs, hx⟩) r hd
    have := y vs (s.sqT (sqT_more m.fz ha))
    rw [hu] at this
    cases this
    exact ⟨fz1, ph1, .refl _ _ _, s, Rep.more m d _ ru⟩
  stop := fun fz1 H1 ph1 st1 m s => ⟨vs, s.sqT (sqT_more m.fz ha), by rw [Reps.length (T := ⟨K, L, tabs, hx⟩) r]; exact Nat.le_refl _⟩
def chars (z : Str) : List D := z.cps.toList.map fun c => .str ⟨#[c]⟩
theorem it_str {T : Pa} {z : Str} : ItOk T (Its z) (chars z) fz ph where
  go := fun i fz1 H1 ph1 st1 m s hi => by
    have : i < z.cps.size := by simpa [chars] using hi
    exact this
  yld := fun i d fz1 H1 ph1 st1 x H' m s hd y => by
    obtain ⟨e, ch, h1, h2⟩ := y
    subst e h2
    have h3 : (z.cps.toList[i]?).map (fun c => D.str ⟨#[c]⟩) = some d := by simpa [chars] using hd
    have h4 : z.cps.toList[i]? = some ch := by simpa using h1
    rw [h4] at h3
    cases h3
    exact ⟨fz1, ph1, .refl _ _ _, s, by simp only [Rep]⟩
  stop := fun fz1 H1 ph1 st1 m s => by
    show z.cps.size ≤ (chars z).length
    simp [chars]
def rng (lo : Int) (n : Nat) : List D := (List.range n).map fun i => .int (lo + (i : Nat))
theorem it_rng {T : Pa} {lo : Int} {n : Nat} : ItOk T (Itr lo n) (rng lo n) fz ph where
  go := fun i fz1 H1 ph1 st1 m s hi => by
    have : i < n := by simpa [rng] using hi
    exact this
  yld := fun i d fz1 H1 ph1 st1 x H' m s hd y => by
    obtain ⟨e, h2⟩ := y
    subst e h2
    have hi : i < n := by
      have := (List.getElem?_eq_some_iff.mp hd).1
      simpa [rng] using this
    have : D.int (lo + (i : Nat)) = d := by
      have h : (rng lo n)[i]? = some (.int (lo + (i : Nat))) := by simp [rng, hi]
      rw [h] at hd
      exact Option.some.inj hd
    subst this
    exact ⟨fz1, ph1, .refl _ _ _, s, by simp only [Rep]⟩
  stop := fun fz1 H1 ph1 st1 m s => by
    show n ≤ (rng lo n).length
    simp [rng]
end
def itD (d : D) (st : Store) : R (List D) := match d with
  | .lst xs => .ok xs st
  | .tup xs => .ok xs st
  | .str z => .ok (chars z) st
  | _ => .stuck
def shItr (f : Sh) : Env → Store → R (List D) := fun ρ st => (f ρ st).bind itD
theorem itD_noex {d : D} {st : Store} {c : Str} {fs : List (Str × D)} {st' : Store} : itD d st ≠ .ex c fs st' := by
  unfold itD
  intro h
  split at h <;> cases h
section
variable {c : Cd} {cm : Bool} {sc : Scope} {a b tg iter : PySem.Expr} {es tgs : List PySem.Expr} {fa fb fk : Sh} {fs : List Sh} {pos p2 : Pos} {s1 : Stmt} {ss ss2 : List Stmt} {f1 f2 : Ss} {g : Gs} {gs : List Gs}
theorem si_val (ha : SE c cm sc a fa) : SI c cm sc tg a (shItr fa) := fun X W hX tk =>
  piI (pi_or (pi_list (ha X W hX tk)) (pi_or (pi_tup (ha X W hX tk)) (pi_str (ha X W hX tk)))) fun σ H Q ⟨fz, ph, ρ, st, s, e, h⟩ => by
    have h : RI c.T W fz ph σ H Q ((fa ρ st).bind itD) := h
    rw [hX.K]
    cases q : fa ρ st with
    | stuck => rw [q] at h; exact h.elim
    | ex c fs st1 =>
      rw [q] at h
      exact .inl ⟨fz, ph, ρ, st, s, e, by rw [q]; exact h⟩
    | ok d st1 =>
      rw [q] at h
      have h : RI c.T W fz ph σ H Q (itD d st1) := h
      cases d with
      | lst xs => exact .inl ⟨fz, ph, ρ, st, s, e, by
          rw [q]
          intro f p H' u x s' r
          obtain ⟨a, vs, e1, ha, ra⟩ := rep_lst r
          exact ⟨a, e1, ⟨vs, .inl (s'.rd ha)⟩, h f p H' _ x s' (it_list ha ra)⟩⟩
      | tup xs => exact .inr (.inl ⟨fz, ph, ρ, st, s, e, by
          rw [q]
          intro f p H' u x s' r
          obtain ⟨a, vs, e1, ha, ra⟩ := rep_tup r
          exact ⟨a, e1, ⟨vs, s'.sqT ha⟩, h f p H' _ x s' (it_tup ha ra)⟩⟩)
      | str z => exact .inr (.inr ⟨fz, ph, ρ, st, s, e, by
          rw [q]
          intro f p H' u x s' r
          exact ⟨z, rep_str r, h f p H' _ x s' it_str⟩⟩)
      | _ => exact h.elim
def rng1D (ds : List D) (st : Store) : R (List D) := match ds with
  | [.int j] => if -(2 ^ 62) ≤ j ∧ j < 2 ^ 62 then .ok (rng 0 j.toNat) st else .stuck
  | _ => .stuck
def rng2D (ds : List D) (st : Store) : R (List D) := match ds with
  | [.int i, .int j] => if -(2 ^ 62) ≤ i ∧ i < 2 ^ 62 ∧ -(2 ^ 62) ≤ j ∧ j < 2 ^ 62 then .ok (rng i (j - i).toNat) st else .stuck
  | _ => .stuck
def shIts (p : List D → Store → R (List D)) (fs : List Sh) : Env → Store → R (List D) := fun ρ st => (evs fs ρ st).bind p
/-- several values, then what is walked -/
theorem ri_args {T : Pa} {W : WX} {p : List D → Store → R (List D)} {σ : L2.St} {H : Hp} {Q : It → Hp → Prop} {Q' : List V → Hp → Prop} (h : tI T W (shIts p fs) σ H Q)
    (hk : ∀ ds st fz ph H' us, SOk T fz ph st H' → Reps T.K T.L fz ph ds us → RI T W fz ph σ H' Q (p ds st) → Q' us H') : tA T W fs σ H Q' := by
  obtain ⟨fz, ph, ρ, st, s, e, h⟩ := h
  have h : RI T W fz ph σ H Q ((evs fs ρ st).bind p) := h
  refine ⟨fz, ph, ρ, st, s, e, ?_⟩
  cases q : evs fs ρ st with
  | stuck => rw [q] at h; exact h.elim
  | ex c fs st1 => rw [q] at h; exact h
  | ok ds st1 =>
    rw [q] at h
    have h : RI T W fz ph σ H Q (p ds st1) := h
    intro f p' H' us x s' r
    refine hk ds st1 f p' H' us s' r ?_
    cases q2 : p ds st1 with
    | stuck => rw [q2] at h; exact h.elim
    | ex c fs st2 => rw [q2] at h; exact fun f2 p2 H2 cls d x2 s2 z => h f2 p2 H2 cls d (x.trans x2) s2 z
    | ok ds2 st2 => rw [q2] at h; exact fun f2 p2 H2 J x2 s2 z => h f2 p2 H2 J (x.trans x2) s2 z
theorem si_rng1 {p : Pos} (hg : glB sc "range" = true) (hm : c.mg "range" = none) (ha : SA c cm sc [a] fs) : SI c cm sc tg (.Call (.Name "range" p) [a] [] pos) (shIts rng1D fs) := fun X W hX tk => by
  have hst : notStar a = true := by have := ha.1; simpa [notStars] using this
  refine piI (pi_range1 (glB_ok hX hg) (by rw [hX.mg]; exact hm) (ha.2 X W hX tk) (by rw [star_each hst]; rfl)) fun σ H Q h => ri_args h fun ds st fz ph H1 us s r q => ?_
  unfold rng1D at q
  split at q
  · rename_i j
    obtain ⟨u, rfl, r1⟩ := reps1 r
    by_cases z : -(2 ^ 62) ≤ j ∧ j < 2 ^ 62
    · rw [if_pos z] at q
      exact ⟨j, by rw [rep_int r1], z.1, z.2, q fz ph H1 _ (.refl _ _ _) s it_rng⟩
    · rw [if_neg z] at q; exact q.elim
  · exact q.elim
theorem si_rng2 {p : Pos} (hg : glB sc "range" = true) (hm : c.mg "range" = none) (ha : SA c cm sc [a, b] fs) : SI c cm sc tg (.Call (.Name "range" p) [a, b] [] pos) (shIts rng2D fs) := fun X W hX tk => by
  have hst : notStar a = true ∧ notStar b = true := by have := ha.1; simpa [notStars] using this
  refine piI (pi_range2 (glB_ok hX hg) (by rw [hX.mg]; exact hm) (ha.2 X W hX tk) (by rw [star_each hst.1, star_each hst.2]; rfl) (by rw [star_each hst.2]; rfl)) fun σ H Q h => ri_args h fun ds st fz ph H1 us s r q => ?_
  unfold rng2D at q
  split at q
  · rename_i i j
    obtain ⟨u, v, rfl, r1, r2⟩ := reps2 r
    by_cases z : -(2 ^ 62) ≤ i ∧ i < 2 ^ 62 ∧ -(2 ^ 62) ≤ j ∧ j < 2 ^ 62
    · rw [if_pos z] at q
      exact ⟨i, j, by rw [rep_int r1, rep_int r2], z, q fz ph H1 _ (.refl _ _ _) s it_rng⟩
    · rw [if_neg z] at q; exact q.elim
  · exact q.elim
end
/-! ### for -/
def loopB (r : RS) (k : Ss) : RS := match r with
  | .nx ρ st => k ρ st
  | .ct ρ st => k ρ st
  | .bk ρ st => .nx ρ st
  | r => r
def forP (g : Gs) (f : Ss) : List D → Ss
  | [], ρ, st => .nx ρ st
  | d :: ds, ρ, st => (gOnly (g d ρ st)).then fun ρ st => loopB (f ρ st) (forP g f ds)
def stFor (fi : Env → Store → R (List D)) (g : Gs) (f : Ss) : Ss := fun ρ st => (fi ρ st).toS ρ fun ds st => forP g f ds ρ st
theorem RQ.loopB {T : Pa} {fz H : Hp} {ph : List Addr} {W : WX} {De : Ends} {r : RS} {k : Ss} {N : L2.St → Hp → Prop} (h : RQ T W fz ph H De (DV.loopB r k))
    (hn : ∀ ρ st fz' ph' σ' H', Ext fz ph H fz' ph' H' → SOk T fz' ph' st H' → EOk T fz' ph' ρ σ' → RQ T W fz' ph' H' De (k ρ st) → N σ' H') : RQ T W fz ph H { De with nx := N, ct := N, bk := De.nx } r := by
  cases r with
  | nx ρ st => exact fun f p σ' H' x s q => hn ρ st f p σ' H' x s q (RQ.ext (r := k ρ st) h x)
  | ct ρ st => exact fun f p σ' H' x s q => hn ρ st f p σ' H' x s q (RQ.ext (r := k ρ st) h x)
  | rt d st => exact h
  | bk ρ st => exact h
  | ex c fs ρ st => exact h
  | stuck => exact h
theorem gOnly_then {T : Pa} {fz H : Hp} {ph : List Addr} {W : WX} {De : Ends} {r : RS} {k : Ss} {N : L2.St → Hp → Prop} (h : RQ T W fz ph H De ((gOnly r).then k))
    (hn : ∀ ρ st fz' ph' σ' H', Ext fz ph H fz' ph' H' → SOk T fz' ph' st H' → EOk T fz' ph' ρ σ' → RQ T W fz' ph' H' De (k ρ st) → N σ' H') : RQ T W fz ph H { nx := N, rt := fun _ _ => False } r := by
  cases r with
  | nx ρ st => exact fun f p σ' H' x s q => hn ρ st f p σ' H' x s q (RQ.ext (r := k ρ st) h x)
  | ex c fs ρ st => exact h
  | _ => exact h.elim
def notSet : PySem.Expr → Bool
  | .Set _ _ _ => false
  | _ => true
theorem folded_ok {e : PySem.Expr} {env : PySem.Env} (h : notSet e = true) : ∀ x, foldedSetIterable e env x = pure x := by
  cases e <;> first | (intro x; rfl) | exact Bool.noConfusion h
section
variable {c : Cd} {cm : Bool} {sc : Scope} {a b tg iter : PySem.Expr} {es tgs : List PySem.Expr} {fa fb fk : Sh} {fs : List Sh} {pos p2 : Pos} {s1 : Stmt} {ss ss2 : List Stmt} {f1 f2 : Ss} {g : Gs} {gs : List Gs}
theorem ss_for {fi : Env → Store → R (List D)} (hi : SI c true sc tg iter fi) (hg : SG c sc tg g) (hb : SSs c sc ss f1) (hs : notSet iter = true) : SS c sc (.For tg iter ss [] pos) (stFor fi g f1) := fun X W hX tk hp =>
  psI (ps_for hp (hX.ctx.calm rfl).1 (hi X W hX.ctx tk) (hg X W hX tk) (hb X W hX tk hp) (folded_ok hs)) fun De σ H ⟨fz, ph, ρ, st, s, e, h⟩ => by
    have h : RQ c.T W fz ph H De ((fi ρ st).toS ρ fun ds st => forP g f1 ds ρ st) := h
    refine ⟨fz, ph, ρ, st, s, e, ?_⟩
    cases q : fi ρ st with
    | stuck => rw [q] at h; exact h.elim
    | ex c fs st1 => rw [q] at h; exact fun f p H' cls d x s' z => h f p σ H' cls d x s' (e.ext x) z
    | ok ds st1 =>
      rw [q] at h
      have h : RQ c.T W fz ph H De (forP g f1 ds ρ st1) := h
      intro fz1 ph1 H1 J x1 s1 it
      refine ⟨fun i m σ' H' => m = ds.length - i ∧ i ≤ ds.length ∧ ∃ fz2 ph2 ρ2 st2, More fz1 ph1 fz2 ph2 ∧ SOk c.T fz2 ph2 st2 H' ∧ EOk c.T fz2 ph2 ρ2 σ' ∧ RQ c.T W fz2 ph2 H' De (forP g f1 (ds.drop i) ρ2 st2),
        ⟨ds.length, by simp, Nat.zero_le _, fz1, ph1, ρ, st1, .refl _ _, s1, e.ext x1, by rw [List.drop_zero]; exact h.ext x1⟩, ?_⟩
      rintro i m σ' H' ⟨rfl, hil, fz2, ph2, ρ2, st2, m2, s2, e2, q2⟩
      by_cases hlt : i < ds.length
      · refine .inr ⟨it.go i fz2 H' ph2 st2 m2 s2 hlt, fun σ' H' => i + 1 ≤ ds.length ∧ ∃ fz2 ph2 ρ2 st2, More fz1 ph1 fz2 ph2 ∧ SOk c.T fz2 ph2 st2 H' ∧ EOk c.T fz2 ph2 ρ2 σ' ∧ RQ c.T W fz2 ph2 H' De (forP g f1 (ds.drop (i + 1)) ρ2 st2),
          fun σ' H' ⟨z1, z2⟩ => ⟨ds.length - (i + 1), by omega, rfl, z1, z2⟩, fun x H2 y => ?_⟩
        obtain ⟨fz3, ph3, x3, s3, r3⟩ := it.yld i ds[i] fz2 H' ph2 st2 x H2 m2 s2 (by simp) y
        rw [List.drop_eq_getElem_cons hlt] at q2
        have q2 : RQ c.T W fz2 ph2 H' De ((gOnly (g ds[i] ρ2 st2)).then fun ρ st => loopB (f1 ρ st) (forP g f1 (ds.drop (i + 1)))) := q2
        refine tG_of s3 (e2.ext x3) r3 (gOnly_then (q2.ext x3) fun ρ4 st4 fz4 ph4 σ4 H4 x4 s4 e4 q4 => ⟨fz4, ph4, ρ4, st4, s4, e4, RQ.loopB q4 fun ρ5 st5 fz5 ph5 σ5 H5 x5 s5 e5 q5 => ⟨hlt, fz5, ph5, ρ5, st5, ((m2.trans x3.more).trans x4.more).trans x5.more, s5, e5, q5⟩⟩)
      · have e' : i = ds.length := by omega
        subst e'
        rw [List.drop_length] at q2
        exact .inl ⟨it.stop fz2 H' ph2 st2 m2 s2, q2 fz2 ph2 σ' H' (.refl _ _ _) s2 e2⟩
end
/-! ### while -/
def whP (t : Sh) (f : Ss) : Nat → Ss
  | 0, _, _ => .stuck
  | n + 1, ρ, st => (t ρ st).toS ρ fun d st => match d with
    | .bl true => loopB (f ρ st) (whP t f n)
    | .bl false => .nx ρ st
    | _ => .stuck
open Classical in
noncomputable def stWhile (t : Sh) (f : Ss) : Ss := fun ρ st => if h : ∃ n, whP t f n ρ st ≠ .stuck then whP t f (Classical.choose h) ρ st else .stuck
theorem loopB_mono {r : RS} {k k' : Ss} (h : ∀ ρ st, k ρ st ≠ .stuck → k' ρ st = k ρ st) (hr : loopB r k ≠ .stuck) : loopB r k' = loopB r k := by
  cases r with
  | nx ρ st => exact h ρ st hr
  | ct ρ st => exact h ρ st hr
  | _ => rfl
theorem whP_mono {t : Sh} {f : Ss} : ∀ (n : Nat) (ρ : Env) (st : Store), whP t f n ρ st ≠ .stuck → whP t f (n + 1) ρ st = whP t f n ρ st
  | 0, _, _, h => absurd rfl h
  | n + 1, ρ, st, h => by
    unfold whP at h ⊢
    cases q : t ρ st with
    | stuck => rfl
    | ex c fs st1 => rfl
    | ok d st1 =>
      rw [q] at h
      cases d <;> try rfl
      rename_i b
      cases b with
      | false => rfl
      | true =>
        have h : loopB (f ρ st1) (whP t f n) ≠ .stuck := h
        exact loopB_mono (fun ρ st z => whP_mono n ρ st z) h
theorem whP_le {t : Sh} {f : Ss} {n m : Nat} {ρ : Env} {st : Store} (h : whP t f n ρ st ≠ .stuck) (hm : n ≤ m) : whP t f m ρ st = whP t f n ρ st := by
  induction hm with
  | refl => rfl
  | step _ ih => rw [whP_mono _ _ _ (by rw [ih]; exact h), ih]
theorem wh_eq {t : Sh} {f : Ss} {n : Nat} {ρ : Env} {st : Store} {r : RS} (h : whP t f n ρ st = r) (hr : r ≠ .stuck) : stWhile t f ρ st = r := by
  have hx : ∃ n, whP t f n ρ st ≠ .stuck := ⟨n, by rw [h]; exact hr⟩
  unfold stWhile
  rw [dif_pos hx]
  have h2 := Classical.choose_spec hx
  rcases Nat.le_total n (Classical.choose hx) with z | z
  · rw [whP_le (by rw [h]; exact hr) z, h]
  · rw [← whP_le h2 z, h]
section
variable {c : Cd} {cm : Bool} {sc : Scope} {a b tg iter : PySem.Expr} {pos p2 : Pos} {ss ss2 : List Stmt} {f1 f2 : Ss} {ft : Sh}
theorem ss_while (ht : ST c true sc a ft) (hb : SSs c sc ss f1) : SS c sc (.While a ss [] pos) (stWhile ft f1) := fun X W hX tk hp =>
  psI (ps_while hp (ht X W hX.ctx tk) (hb X W hX tk hp)) fun De σ H ⟨fz, ph, ρ, st, s, e, h⟩ => by
    unfold stWhile at h
    split at h
    · rename_i hx
      refine ⟨fun m σ' H' => ∃ fz2 ph2 ρ2 st2, SOk c.T fz2 ph2 st2 H' ∧ EOk c.T fz2 ph2 ρ2 σ' ∧ RQ c.T W fz2 ph2 H' De (whP ft f1 m ρ2 st2), ⟨_, fz, ph, ρ, st, s, e, h⟩, ?_⟩
      rintro m σ' H' ⟨fz2, ph2, ρ2, st2, s2, e2, q2⟩
      cases m with
      | zero => exact q2.elim
      | succ m =>
        have q2 : RQ c.T W fz2 ph2 H' De ((ft ρ2 st2).toS ρ2 fun d st => match d with
          | .bl true => loopB (f1 ρ2 st) (whP ft f1 m)
          | .bl false => .nx ρ2 st
          | _ => .stuck) := q2
        refine ⟨fz2, ph2, ρ2, st2, s2, e2, RQ.step (k := fun d st => match d with
          | .bl true => loopB (f1 ρ2 st) (whP ft f1 m)
          | .bl false => .nx ρ2 st
          | _ => .stuck) e2 q2 fun d st3 fz3 ph3 H3 u x3 s3 e3 r3 q3 => ?_⟩
        cases d <;> try exact q3.elim
        rename_i k
        refine ⟨k, rep_bl r3, ?_⟩
        cases k with
        | true =>
          rw [if_pos rfl]
          exact ⟨fun σ' H' => ∃ fz2 ph2 ρ2 st2, SOk c.T fz2 ph2 st2 H' ∧ EOk c.T fz2 ph2 ρ2 σ' ∧ RQ c.T W fz2 ph2 H' De (whP ft f1 m ρ2 st2), fun σ' H' z => ⟨m, Nat.lt_succ_self m, z⟩,
            fz3, ph3, ρ2, st3, s3, e3, RQ.loopB q3 fun ρ4 st4 fz4 ph4 σ4 H4 x4 s4 e4 q4 => ⟨fz4, ph4, ρ4, st4, s4, e4, q4⟩⟩
        | false =>
          rw [if_neg Bool.false_ne_true]
          exact q3 fz3 ph3 σ' H3 (.refl _ _ _) s3 e3
    · exact h.elim
end
end DV

namespace DV
open PySem PySem.Spec PyProof.Rows L2

/-! ### the slots of a block -/
def wipeD (ρ : Env) : List Nat → Env
  | [] => ρ
  | v :: vs => (wipeD ρ vs).set v .un
theorem wipe_get (σ : L2.St) : ∀ (vs : List Nat) (j : Nat), (wipe σ vs)[j]? = if j ∈ vs then (σ[j]?).map (fun _ => none) else σ[j]?
  | [], j => by simp [wipe]
  | v :: vs, j => by
    unfold wipe
    rw [List.getElem?_set]
    by_cases e : v = j
    · subst e
      rw [if_pos rfl, if_pos List.mem_cons_self, wipe_length]
      by_cases hl : v < σ.length
      · rw [if_pos hl, List.getElem?_eq_getElem hl]; rfl
      · rw [if_neg hl, List.getElem?_eq_none (by omega)]; rfl
    · rw [if_neg e, wipe_get σ vs j]
      have : (j ∈ v :: vs) ↔ j ∈ vs := by
        constructor
        · intro h
          rcases List.mem_cons.mp h with z | z
          · exact absurd z.symm e
          · exact z
        · exact List.mem_cons_of_mem _
      simp only [this]
theorem wipe_set {σ : L2.St} {vs : List Nat} {i : Nat} {x : Option V} (h : i ∈ vs) : wipe (σ.set i x) vs = wipe σ vs := by
  apply List.ext_getElem?
  intro j
  rw [wipe_get, wipe_get]
  by_cases e : j ∈ vs
  · rw [if_pos e, if_pos e, List.getElem?_set]
    by_cases z : i = j
    · subst z
      rw [if_pos rfl]
      by_cases hl : i < σ.length
      · rw [if_pos hl, List.getElem?_eq_getElem hl]; rfl
      · rw [if_neg hl, List.getElem?_eq_none (by omega)]
    · rw [if_neg z]
  · have : i ≠ j := fun z => e (z ▸ h)
    rw [if_neg e, if_neg e, List.getElem?_set_ne this]
theorem wipe_wipe (σ : L2.St) (vs : List Nat) : wipe (wipe σ vs) vs = wipe σ vs := by
  apply List.ext_getElem?
  intro j
  rw [wipe_get, wipe_get]
  by_cases e : j ∈ vs
  · rw [if_pos e, if_pos e]
    cases σ[j]? <;> rfl
  · rw [if_neg e, if_neg e]
section
variable {T : Pa} {fz fz' H H' : Hp} {ph ph' : List Addr} {st : Store} {σ : L2.St} {W : WX} {ρ : Env}
theorem EOk.unset (e : EOk T fz ph ρ σ) (i : Nat) : EOk T fz ph (ρ.set i .un) (σ.set i none) where
  len := by rw [List.length_set, List.length_set]; exact e.len
  sl := fun j s u h1 h2 => by
    by_cases q : i = j
    · subst q
      have l1 : i < ρ.length := by have := (List.getElem?_eq_some_iff.mp h1).1; simpa using this
      rw [List.getElem?_set_self l1] at h1
      cases h1
      exact True.intro
    · rw [List.getElem?_set_ne q] at h1 h2
      exact e.sl j s u h1 h2
theorem EOk.wipe (e : EOk T fz ph ρ σ) : ∀ vs : List Nat, EOk T fz ph (wipeD ρ vs) (L2.wipe σ vs)
  | [] => e
  | v :: vs => (EOk.wipe e vs).unset v
/-! ### a thing beside the store -/
theorem SOk.aside (s : SOk T fz ph st H) {p : Addr} {o : HO} (h1 : fz p = none) (h2 : p ∉ ph) (h3 : H p = none ∨ ∃ u, H p = some u ∧ Chg u) : SOk T fz ph st (upd H p o) where
  sub := fun b u h => by
    have n : b ≠ p := by
      intro e
      subst e
      rw [h1] at h
      cases h
    rw [upd_ne n]
    exact s.sub b u h
  len := s.len
  mem := fun i m b e1 e2 => by
    have n : b ≠ p := fun e => h2 (e ▸ List.mem_of_getElem? e2)
    exact MOk.more (.refl _ _) (fun u hu => by rw [upd_ne n]; exact hu) (s.mem i m b e1 e2)
  nd := s.nd
  out := s.out
  tb := by
    rcases h3 with h3 | ⟨u, h3, c⟩
    · exact s.tb.ext fun a u h => by rw [upd_ne (ne_of_none h h3)]; exact h
    · exact tabs_put s.tb h3 c
  nt := s.nt
/-- it is kept from now on as it is -/
theorem SOk.keep (s : SOk T fz ph st H) {p : Addr} {u : HO} (h1 : fz p = none) (h2 : p ∉ ph) (h3 : H p = some u) (h4 : Chg u) : SOk T (upd fz p u) ph st H where
  sub := fun b v h => by
    by_cases e : b = p
    · subst e; rw [upd_same] at h; cases h; exact h3
    · rw [upd_ne e] at h; exact s.sub b v h
  len := s.len
  mem := fun i m b e1 e2 => MOk.more (More.frz h1) (fun _ h => h) (s.mem i m b e1 e2)
  nd := s.nd
  out := fun i m b e1 e2 e3 => by
    have n : b ≠ p := fun e => h2 (e ▸ List.mem_of_getElem? e2)
    rw [upd_ne n]
    exact s.out i m b e1 e2 e3
  tb := s.tb
  nt := fun b ps h => by
    by_cases e : b = p
    · subst e; rw [upd_same] at h; cases h; exact h4
    · rw [upd_ne e] at h; exact s.nt b ps h
/-- it comes into the store -/
theorem SOk.intake (s : SOk T fz ph st H) {p : Addr} {u : HO} {m : MO} (h1 : fz p = none) (h2 : p ∉ ph) (h3 : H p = some u) (hn : MOk T fz (ph ++ [p]) H p m) : SOk T fz (ph ++ [p]) (st ++ [m]) H where
  sub := s.sub
  len := by simp [s.len]
  mem := fun i m' b e1 e2 => by
    by_cases e : i < st.length
    · rw [List.getElem?_append_left e] at e1
      rw [List.getElem?_append_left (by have := s.len; omega)] at e2
      exact MOk.more More.snoc (fun u hu => hu) (s.mem i m' b e1 e2)
    · have hl := s.len
      have h1 : i < (st ++ [m]).length := (List.getElem?_eq_some_iff.mp e1).1
      have hi : i = st.length := by simp at h1; omega
      subst hi
      rw [List.getElem?_append_right (by omega)] at e1
      rw [List.getElem?_append_right (by omega)] at e2
      simp [hl] at e1 e2
      subst e1 e2
      exact hn
  nd := by
    rw [List.nodup_append]
    refine ⟨s.nd, by simp, fun x hx y hy => ?_⟩
    have e : y = p := by simpa using hy
    subst e
    intro e
    subst e
    exact h2 hx
  out := fun i m' b e1 e2 e3 => by
    by_cases e : i < st.length
    · rw [List.getElem?_append_left e] at e1
      rw [List.getElem?_append_left (by have := s.len; omega)] at e2
      exact s.out i m' b e1 e2 e3
    · have hl := s.len
      have h1' : i < (st ++ [m]).length := (List.getElem?_eq_some_iff.mp e1).1
      have hi : i = st.length := by simp at h1'; omega
      subst hi
      rw [List.getElem?_append_right (by omega)] at e2
      simp [hl] at e2
      subst e2
      exact h1
  tb := s.tb
  nt := s.nt
end

/-! ### targets of a block -/
inductive Tgd where
  | nm (i : Nat)
  | tp (is : List Nat)
def setAll : List Nat → List D → Env → Env
  | i :: is, d :: ds, ρ => setAll is ds (ρ.set i (.v d))
  | _, _, ρ => ρ
def Tgd.set : Tgd → D → Env → Option Env
  | .nm i, d, ρ => some (ρ.set i (.v d))
  | .tp is, .tup ds, ρ => if ds.length = is.length then some (setAll is ds ρ) else none
  | .tp _, _, _ => none
def Tgd.all : Tgd → List Nat
  | .nm i => [i]
  | .tp is => is
def tgTs : List Nat → TGs
  | [] => gNil
  | i :: is => gCons (gName i) (tgTs is)
def tgT (K : PySem.W.Frag) : Tgd → TG
  | .nm i => gName i
  | .tp is => gTup K is.length (tgTs is)
section
variable {T : Pa} {fz fz' H H' : Hp} {ph ph' : List Addr} {st : Store} {σ : L2.St} {W : WX} {ρ : Env}
theorem tgTs_ok {vs0 : List Nat} : ∀ {is : List Nat} {ds : List D} {us : List V} {σ : L2.St} {ρ : Env} {Q : L2.St → Hp → Prop}, EOk T fz ph ρ σ → Reps T.K T.L fz ph ds us → ds.length = is.length → (∀ i ∈ is, i ∈ vs0) →
    (∀ σ1, EOk T fz ph (setAll is ds ρ) σ1 → wipe σ1 vs0 = wipe σ vs0 → Q σ1 H) → tgTs is us σ H Q
  | [], [], us, σ, ρ, Q, e, r, _, _, h => by
    rw [reps0 r]
    exact ⟨rfl, h σ e rfl⟩
  | i :: is, d :: ds, us, σ, ρ, Q, e, r, hl, hi, h => by
    simp only [Reps] at r
    obtain ⟨v, q, e1, r1, r2⟩ := r
    subst e1
    refine ⟨v, q, rfl, ?_⟩
    exact tgTs_ok (e.set r1) r2 (by simpa using hl) (fun j hj => hi j (List.mem_cons_of_mem _ hj)) fun σ1 e1 w => h σ1 e1 (w.trans (wipe_set (hi i List.mem_cons_self)))
  | [], _ :: _, _, _, _, _, _, _, hl, _, _ => by simp at hl
  | _ :: _, [], _, _, _, _, _, _, hl, _, _ => by simp at hl
theorem tgT_ok {t : Tgd} {d : D} {u : V} {vs0 : List Nat} {ρ1 : Env} {Q : L2.St → Hp → Prop} (s : SOk T fz ph st H) (e : EOk T fz ph ρ σ) (r : Rep T.K T.L fz ph d u) (hs : t.set d ρ = some ρ1) (hi : ∀ i ∈ t.all, i ∈ vs0)
    (h : ∀ σ1, EOk T fz ph ρ1 σ1 → wipe σ1 vs0 = wipe σ vs0 → Q σ1 H) : tgT T.K t u σ H Q := by
  cases t with
  | nm i =>
    cases (Option.some.inj hs)
    exact h _ (e.set r) (wipe_set (hi i (by simp [Tgd.all])))
  | tp is =>
    cases d with
    | tup ds =>
      have hs : (if ds.length = is.length then some (setAll is ds ρ) else none) = some ρ1 := hs
      by_cases z : ds.length = is.length
      · rw [if_pos z] at hs
        cases (Option.some.inj hs)
        obtain ⟨a, vs, e1, ha, ra⟩ := rep_tup r
        exact ⟨a, vs, e1, s.sqT ha, by rw [← ra.length, z], tgTs_ok e ra z hi h⟩
      · rw [if_neg z] at hs; cases hs
    | _ => cases hs
end

/-! ### comprehensions -/
def R.calm {α : Type} : R α → R α
  | .ex _ _ _ => .stuck
  | r => r
def lcP (t : Tgd) (ft : Sh) (fe : Sh) (ρ : Env) : List D → List D → Store → R (List D)
  | [], acc, st => .ok acc st
  | d :: ds, acc, st => match t.set d ρ with
    | none => .stuck
    | some ρ1 => (ft ρ1 st).calm.bind fun b st => match b with
      | .bl true => (fe ρ1 st).calm.bind fun y st => if acc.length < sizeLine then lcP t ft fe ρ ds (acc ++ [y]) st else .stuck
      | .bl false => lcP t ft fe ρ ds acc st
      | _ => .stuck
def shYes : Sh := fun _ st => .ok (.bl true) st
def lcR (fi : Env → Store → R (List D)) (t : Tgd) (ft fe : Sh) (vs : List Nat) (ρ : Env) (st : Store) : R (List D) := (fi ρ st).bind fun ds st => lcP t ft fe (wipeD ρ vs) ds [] st
/-- the new list stays as it is; or it may change -/
def shLc (fi : Env → Store → R (List D)) (t : Tgd) (ft fe : Sh) (vs : List Nat) : Sh := fun ρ st => (lcR fi t ft fe vs ρ st).bind fun ds st => .ok (.lst ds) st
def shLcM (fi : Env → Store → R (List D)) (t : Tgd) (ft fe : Sh) (vs : List Nat) : Sh := fun ρ st => (lcR fi t ft fe vs ρ st).bind fun ds st => .ok (.ref st.length) (st ++ [.lst ds])
def W0 : WX := fun _ _ _ _ => False
section
variable {T : Pa} {fz fz' H H' : Hp} {ph ph' : List Addr} {st : Store} {σ : L2.St} {W : WX} {ρ : Env}
/-- what is wanted of a new list -/
def LcEnd (T : Pa) (fz : Hp) (ph : List Addr) (H : Hp) (Q : VK) (ds : List D) (st : Store) : Prop :=
  ∀ fz' ph' H' p vs, Ext fz ph H fz' ph' H' → SOk T fz' ph' st H' → H p = none → H' p = some (.lst vs) → Reps T.K T.L fz' ph' ds vs → fz' p = none → p ∉ ph' → Q (.ref p) H'
def RL (T : Pa) (W : WX) (fz : Hp) (ph : List Addr) (σ : L2.St) (H : Hp) (Q : VK) (r : R (List D)) : Prop :=
  match r with
  | .ok ds st => LcEnd T fz ph H Q ds st
  | .ex c fs st => ∀ fz' ph' H' cls d, Ext fz ph H fz' ph' H' → SOk T fz' ph' st H' → XOk T fz' ph' H' c fs cls d → W cls d σ H'
  | .stuck => False
theorem calm_ok {r : R D} {k : D → Store → R (List D)} (h : (r.calm.bind k) ≠ .stuck) : ∃ d st, r = .ok d st := by
  cases r with
  | ok d st => exact ⟨d, st, rfl⟩
  | ex c fs st => exact absurd rfl h
  | stuck => exact absurd rfl h
theorem lcP_noex {t : Tgd} {ft fe : Sh} {ρ : Env} : ∀ {ds acc : List D} {st : Store} {c : Str} {fs : List (Str × D)} {st' : Store}, lcP t ft fe ρ ds acc st ≠ .ex c fs st'
  | [], acc, st, c, fs, st' => by unfold lcP; intro h; cases h
  | d :: ds, acc, st, c, fs, st' => by
    unfold lcP
    intro h
    cases q : t.set d ρ with
    | none => rw [q] at h; cases h
    | some ρ1 =>
      rw [q] at h
      have h : ((ft ρ1 st).calm.bind fun b st => match b with
        | .bl true => (fe ρ1 st).calm.bind fun y st => if acc.length < sizeLine then lcP t ft fe ρ ds (acc ++ [y]) st else .stuck
        | .bl false => lcP t ft fe ρ ds acc st
        | _ => .stuck) = .ex c fs st' := h
      cases q1 : ft ρ1 st with
      | stuck => rw [q1] at h; cases h
      | ex c fs st1 => rw [q1] at h; cases h
      | ok b st1 =>
        rw [q1] at h
        cases b with
        | bl k =>
          cases k with
          | false => exact lcP_noex h
          | true =>
            have h : ((fe ρ1 st1).calm.bind fun y st => if acc.length < sizeLine then lcP t ft fe ρ ds (acc ++ [y]) st else .stuck) = .ex c fs st' := h
            cases q2 : fe ρ1 st1 with
            | stuck => rw [q2] at h; cases h
            | ex c fs st1 => rw [q2] at h; cases h
            | ok y st2 =>
              rw [q2] at h
              have h : (if acc.length < sizeLine then lcP t ft fe ρ ds (acc ++ [y]) st2 else .stuck) = .ex c fs st' := h
              by_cases z : acc.length < sizeLine
              · rw [if_pos z] at h; exact lcP_noex h
              · rw [if_neg z] at h; cases h
        | _ => cases h
/-- the walk of a comprehension -/
theorem lc_walk {J : It} {t : Tgd} {ft fe : Sh} {vs : List Nat} {Q : VK} {ds res : List D} {st1 stE : Store} {fz1 H1 : Hp} {ph1 : List Addr} (s1 : SOk T fz1 ph1 st1 H1) (e1 : EOk T fz1 ph1 ρ σ) (it : ItOk T J ds fz1 ph1) (ht : ∀ i ∈ t.all, i ∈ vs)
    (hr : lcP t ft fe (wipeD ρ vs) ds [] st1 = .ok res stE) (hq : LcEnd T fz1 ph1 H1 Q res stE) {p : Addr} (hp : H1 p = none) :
    ∃ Wi : Nat → Nat → Hp → Prop, (∃ m, Wi 0 m (upd H1 p (.lst []))) ∧ ∀ i m H, Wi i m H →
      (J.stop i H ∧ Q (.ref p) H) ∨ (J.go i H ∧ ∃ Nx : Hp → Prop, (∀ H', Nx H' → ∃ m', m' < m ∧ Wi (i + 1) m' H') ∧ ∀ x H', J.yld i H x H' → tgT T.K t x (wipe σ vs) H' fun σ2 H2 => wipe σ2 vs = wipe σ vs ∧ tTest (tE T W0 ft) σ2 H2 fun b H3 =>
        if b = true then tE T W0 fe σ2 H3 fun y H4 => ∃ acc, H4 p = some (.lst acc) ∧ acc.length < sizeLine ∧ Nx (upd H4 p (.lst (acc ++ [y]))) else Nx H3) := by
  have hf0 : fz1 p = none := by
    cases q : fz1 p with
    | none => rfl
    | some u => rw [s1.sub _ _ q] at hp; cases hp
  have hp0 : p ∉ ph1 := fun hm => by
    obtain ⟨u, hu⟩ := s1.at_some hm
    rw [hu] at hp; cases hp
  have x0 : Ext fz1 ph1 H1 fz1 ph1 (upd H1 p (.lst [])) := ⟨.refl _ _, fun a u h _ _ => by rw [upd_ne (ne_of_none h hp)]; exact h, fun a h => by
    by_cases e : a = p
    · subst e; rw [upd_same]; simp
    · rw [upd_ne e]; exact h, fun a h => .inl h, fun a h => .inl h⟩
  let Wf : Nat → Hp → Prop := fun i H => i ≤ ds.length ∧ ∃ fz2 ph2 st2 acc us, Ext fz1 ph1 H1 fz2 ph2 H ∧ SOk T fz2 ph2 st2 H ∧ H p = some (.lst us) ∧ Reps T.K T.L fz2 ph2 acc us ∧ fz2 p = none ∧ p ∉ ph2 ∧
    lcP t ft fe (wipeD ρ vs) (ds.drop i) acc st2 = .ok res stE
  refine ⟨fun i m H => m = ds.length - i ∧ Wf i H, ⟨ds.length, by simp, Nat.zero_le _, fz1, ph1, st1, [], [], x0, s1.aside hf0 hp0 (.inl hp), upd_same, by simp only [Reps], hf0, hp0, by rw [List.drop_zero]; exact hr⟩, ?_⟩
  rintro i m H ⟨rfl, hil, fz2, ph2, st2, acc, us, x2, s2, hD, ra, hf, hn, q2⟩
  by_cases hlt : i < ds.length
  · refine .inr ⟨it.go i fz2 H ph2 st2 x2.more s2 hlt, fun H => Wf (i + 1) H, fun H' z => ⟨ds.length - (i + 1), by omega, rfl, z⟩, fun x H2 y => ?_⟩
    obtain ⟨fz3, ph3, x3, s3, r3⟩ := it.yld i ds[i] fz2 H ph2 st2 x H2 x2.more s2 (by simp) y
    rw [List.drop_eq_getElem_cons hlt] at q2
    unfold lcP at q2
    cases hset : t.set ds[i] (wipeD ρ vs) with
    | none => rw [hset] at q2; cases q2
    | some ρ1 =>
      rw [hset] at q2
      have eb : EOk T fz3 ph3 (wipeD ρ vs) (wipe σ vs) := (e1.wipe vs).more (x2.more.trans x3.more)
      refine tgT_ok s3 eb r3 hset ht fun σ2 e2 hw => ⟨hw.trans (wipe_wipe σ vs), ?_⟩
      have q2 : ((ft ρ1 st2).calm.bind fun b st => match b with
        | .bl true => (fe ρ1 st).calm.bind fun y st => if acc.length < sizeLine then lcP t ft fe (wipeD ρ vs) (ds.drop (i + 1)) (acc ++ [y]) st else .stuck
        | .bl false => lcP t ft fe (wipeD ρ vs) (ds.drop (i + 1)) acc st
        | _ => .stuck) = .ok res stE := q2
      -- what is known of p further on
      have hD3 : H2 p = some (.lst us) := x3.fr p _ hD hn (fun ps z => by cases z)
      have hf3 : fz3 p = none := by
        cases q : fz3 p with
        | none => rfl
        | some u =>
          rcases x3.nf p (by rw [q]; simp) with z | z | z
          · exact absurd hf z
          · rw [hD] at z; cases z
          · exact absurd z hn
      have hn3 : p ∉ ph3 := fun hm => by
        rcases x3.np p hm with z | z
        · exact hn z
        · rw [hD] at z; cases z
      cases qt : ft ρ1 st2 with
      | stuck => rw [qt] at q2; cases q2
      | ex c fs st3 => rw [qt] at q2; cases q2
      | ok b st3 =>
        rw [qt] at q2
        cases b with
        | bl k =>
          refine ⟨fz3, ph3, ρ1, st2, s3, e2, ?_⟩
          rw [qt]
          intro fz4 ph4 H4 u x4 s4 r4
          have hD4 : H4 p = some (.lst us) := x4.fr p _ hD3 hn3 (fun ps z => by cases z)
          have hf4 : fz4 p = none := by
            cases q : fz4 p with
            | none => rfl
            | some u =>
              rcases x4.nf p (by rw [q]; simp) with z | z | z
              · exact absurd hf3 z
              · rw [hD3] at z; cases z
              · exact absurd z hn3
          have hn4 : p ∉ ph4 := fun hm => by
            rcases x4.np p hm with z | z
            · exact hn3 z
            · rw [hD3] at z; cases z
          refine ⟨k, rep_bl r4, ?_⟩
          cases k with
          | false =>
            rw [if_neg Bool.false_ne_true]
            exact ⟨hlt, fz4, ph4, st3, acc, us, (x2.trans x3).trans x4, s4, hD4, Reps.more (x3.more.trans x4.more) acc us ra, hf4, hn4, q2⟩
          | true =>
            rw [if_pos rfl]
            have q2 : ((fe ρ1 st3).calm.bind fun y st => if acc.length < sizeLine then lcP t ft fe (wipeD ρ vs) (ds.drop (i + 1)) (acc ++ [y]) st else .stuck) = .ok res stE := q2
            cases qe : fe ρ1 st3 with
            | stuck => rw [qe] at q2; cases q2
            | ex c fs st4 => rw [qe] at q2; cases q2
            | ok y st4 =>
              rw [qe] at q2
              have q2 : (if acc.length < sizeLine then lcP t ft fe (wipeD ρ vs) (ds.drop (i + 1)) (acc ++ [y]) st4 else .stuck) = .ok res stE := q2
              by_cases z : acc.length < sizeLine
              · rw [if_pos z] at q2
                refine ⟨fz4, ph4, ρ1, st3, s4, e2.ext x4, ?_⟩
                rw [qe]
                intro fz5 ph5 H5 v x5 s5 r5
                have hD5 : H5 p = some (.lst us) := x5.fr p _ hD4 hn4 (fun ps z => by cases z)
                have hf5 : fz5 p = none := by
                  cases q : fz5 p with
                  | none => rfl
                  | some u =>
                    rcases x5.nf p (by rw [q]; simp) with z | z | z
                    · exact absurd hf4 z
                    · rw [hD4] at z; cases z
                    · exact absurd z hn4
                have hn5 : p ∉ ph5 := fun hm => by
                  rcases x5.np p hm with z | z
                  · exact hn4 z
                  · rw [hD4] at z; cases z
                have xx : Ext fz1 ph1 H1 fz5 ph5 (upd H5 p (.lst (us ++ [v]))) := by
                  have xa := ((x2.trans x3).trans x4).trans x5
                  refine ⟨xa.more, fun a u h n t => by rw [upd_ne (ne_of_none h hp)]; exact xa.fr a u h n t, fun a h => ?_, xa.nf, xa.np⟩
                  by_cases e : a = p
                  · subst e; rw [upd_same]; simp
                  · rw [upd_ne e]; exact xa.dm a h
                have ra5 := Reps.more ((x3.more.trans x4.more).trans x5.more) acc us ra
                refine ⟨us, hD5, by rw [← ra.length]; exact z, hlt, fz5, ph5, st4, acc ++ [y], us ++ [v], xx, s5.aside hf5 hn5 (.inr ⟨_, hD5, True.intro⟩), upd_same, reps_snoc ra5 r5, hf5, hn5, q2⟩
              · rw [if_neg z] at q2; cases q2
        | _ => cases q2
  · have e' : i = ds.length := by omega
    subst e'
    rw [List.drop_length] at q2
    unfold lcP at q2
    cases q2
    exact .inl ⟨it.stop fz2 H ph2 _ x2.more s2, hq fz2 ph2 H p us x2 s2 hp hD ra hf hn⟩
theorem lc_step {fi : Env → Store → R (List D)} {t : Tgd} {ft fe : Sh} {vs : List Nat} {Q : VK} (ht : ∀ i ∈ t.all, i ∈ vs) (s : SOk T fz ph st H) (e : EOk T fz ph ρ σ) (h : RL T W fz ph σ H Q (lcR fi t ft fe vs ρ st)) :
    tLc (tI T W fi) (tgT T.K t) (tTest (tE T W0 ft)) (tE T W0 fe) vs σ H Q := by
  have h : RL T W fz ph σ H Q ((fi ρ st).bind fun ds st => lcP t ft fe (wipeD ρ vs) ds [] st) := h
  refine ⟨fz, ph, ρ, st, s, e, ?_⟩
  cases q : fi ρ st with
  | stuck => rw [q] at h; exact h.elim
  | ex c fs st1 => rw [q] at h; exact h
  | ok ds st1 =>
    rw [q] at h
    have h : RL T W fz ph σ H Q (lcP t ft fe (wipeD ρ vs) ds [] st1) := h
    cases q2 : lcP t ft fe (wipeD ρ vs) ds [] st1 with
    | stuck => rw [q2] at h; exact h.elim
    | ex c fs st2 => exact (lcP_noex q2).elim
    | ok res stE =>
      rw [q2] at h
      intro fz1 ph1 H1 J x1 s1 it p hp
      refine lc_walk s1 (e.ext x1) it ht q2 (fun fz' ph' H' p' us' x' s' n' d' r' f' m' => h fz' ph' H' p' us' (x1.trans x') s' ?_ d' r' f' m') hp
      cases z : H p' with
      | none => rfl
      | some o => exact absurd n' (x1.dm p' (by rw [z]; simp))
theorem rl_of {r : R (List D)} {Q : VK} (h : RP T W fz ph σ H Q (r.bind fun ds st => .ok (.lst ds) st)) : RL T W fz ph σ H Q r := by
  cases r with
  | stuck => exact h
  | ex c fs st => exact h
  | ok ds st =>
    intro fz' ph' H' p us x s n hD ra hf hm
    have h : RP T W fz ph σ H Q (.ok (.lst ds) st) := h
    refine h (upd fz' p (.lst us)) ph' H' (.ref p) ⟨x.more.trans (More.frz hf), x.fr, x.dm, fun b q => ?_, x.np⟩ (s.keep hf hm hD True.intro) ?_
    · by_cases e : b = p
      · subst e; exact .inr (.inl n)
      · rw [upd_ne e] at q; exact x.nf b q
    · simp only [Rep]
      exact ⟨p, us, rfl, .inl upd_same, Reps.more (More.frz hf) ds us ra⟩
theorem rl_ofM {r : R (List D)} {Q : VK} (h : RP T W fz ph σ H Q (r.bind fun ds st => .ok (.ref st.length) (st ++ [.lst ds]))) : RL T W fz ph σ H Q r := by
  cases r with
  | stuck => exact h
  | ex c fs st => exact h
  | ok ds st =>
    intro fz' ph' H' p us x s n hD ra hf hm
    have h : RP T W fz ph σ H Q (.ok (.ref st.length) (st ++ [MO.lst ds])) := h
    refine h fz' (ph' ++ [p]) H' (.ref p) ⟨x.more.trans More.snoc, x.fr, x.dm, x.nf, fun b hb => ?_⟩ (s.intake hf hm hD ⟨us, hD, Reps.more More.snoc ds us ra⟩) ?_
    · rcases List.mem_append.mp hb with z | z
      · exact x.np b z
      · have e : b = p := by simpa using z
        subst e
        exact .inr n
    · simp only [Rep]
      exact ⟨p, rfl, by rw [s.len, List.getElem?_append_right (Nat.le_refl _)]; simp⟩
end
end DV

namespace DV
open PySem PySem.Spec PyProof.Rows L2

theorem relS_eq (scope : Scope) (env : PySem.Env) : relabel scope env = relS scope env.scope := by rfl
theorem Ctx.blk {c : Cd} {sc scope : Scope} {X : Cx} (hX : Ctx c true sc X) (s : Shared) (H : Hp) (C : Addr) (cl : List (Str × Addr)) (fp : List Addr) : Ctx c true (relS scope sc) (X.blk s H scope (compEnvC scope cl C X.env) fp) where
  prog := hX.prog
  w := hX.w
  K := hX.K
  mg := hX.mg
  base := hX.base
  N := hX.N
  nd := hX.nd
  sc := by
    show relabel scope X.env = _
    rw [relS_eq, hX.sc]
  gd := hX.gd
  un := hX.un
  calm := fun _ => hX.calm rfl
  hn := fun _ => hX.hn rfl
  hx := fun a cn e => by rw [hX.hn rfl] at e; cases e
theorem takes0 {X : Cx} : Takes X W0 := fun u s' ⟨a, B, sI, pins, σ, H, cls, d, e, I, nb, up, sky, na, os, ag, w⟩ => False.elim w
/-- a block's targets: their names -/
def tgdB (scope rs : Scope) (N : List Str) : Tgd → PySem.Expr → Bool
  | .nm i, .Name x _ => N[i]? == some x && locB rs x && (scope.names.lookup x == some .cell || rs.names.lookup x == some .local)
  | .tp [i], .Tuple [.Name x _] _ _ => N[i]? == some x && locB rs x && (scope.names.lookup x == some .cell || rs.names.lookup x == some .local)
  | .tp [i, j], .Tuple [.Name x _, .Name y _] _ _ => N[i]? == some x && locB rs x && (scope.names.lookup x == some .cell || rs.names.lookup x == some .local) && (N[j]? == some y && locB rs y && (scope.names.lookup y == some .cell || rs.names.lookup y == some .local))
  | .tp [i, j, k], .Tuple [.Name x _, .Name y _, .Name z _] _ _ => N[i]? == some x && locB rs x && (scope.names.lookup x == some .cell || rs.names.lookup x == some .local) && (N[j]? == some y && locB rs y && (scope.names.lookup y == some .cell || rs.names.lookup y == some .local)) &&
      (N[k]? == some z && locB rs z && (scope.names.lookup z == some .cell || rs.names.lookup z == some .local))
  | _, _ => false
theorem pg_nameB {X : Cx} {c : Cd} {scope sc : Scope} {i : Nat} {x : Str} {p : Pos} (hX : Ctx c true sc X) (hf : X.fn = fun x => scope.names.lookup x == some .cell) (h : (c.N[i]? == some x && locB sc x && (scope.names.lookup x == some .cell || sc.names.lookup x == some .local)) = true) : PG X (.Name x p) (gName i) := by
  simp only [Bool.and_eq_true, Bool.or_eq_true] at h
  obtain ⟨⟨h1, h2⟩, h3⟩ := h
  refine pg_name (by rw [hX.N]; exact hX.nd) (by rw [hX.N]; exact eq_of_beq h1) (by rw [hX.sc]; exact locB_ok h2) ?_
  rcases h3 with h3 | h3
  · exact .inl (by rw [hf]; exact h3)
  · exact .inr (by rw [hX.sc]; exact eq_of_beq h3)
theorem pg_tgd {X : Cx} {c : Cd} {scope sc : Scope} {t : Tgd} {tg : PySem.Expr} (hX : Ctx c true sc X) (hf : X.fn = fun x => scope.names.lookup x == some .cell) (h : tgdB scope sc c.N t tg = true) : PG X tg (tgT X.K t) := by
  unfold tgdB at h
  split at h
  · exact pg_nameB hX hf h
  · exact pg_tup (n := 1) (hX.calm rfl).1 (pgs_cons (pg_nameB hX hf h) pgs_nil)
  · obtain ⟨h1, h2⟩ := Bool.and_eq_true_iff.mp h
    exact pg_tup (n := 2) (hX.calm rfl).1 (pgs_cons (pg_nameB hX hf h1) (pgs_cons (pg_nameB hX hf h2) pgs_nil))
  · obtain ⟨h1, h3⟩ := Bool.and_eq_true_iff.mp h
    obtain ⟨h1, h2⟩ := Bool.and_eq_true_iff.mp h1
    exact pg_tup (n := 3) (hX.calm rfl).1 (pgs_cons (pg_nameB hX hf h1) (pgs_cons (pg_nameB hX hf h2) (pgs_cons (pg_nameB hX hf h3) pgs_nil)))
  · cases h
/-- a clause's tests: none, one -/
def SIfs (c : Cd) (sc : Scope) : List PySem.Expr → Sh → Prop
  | [], f => f = shYes
  | [t], f => ST c true sc t f
  | _, _ => False
theorem pts_ifs {X : Cx} {c : Cd} {sc : Scope} (hX : Ctx c true sc X) (tk : Takes X W0) : ∀ {ifs : List PySem.Expr} {f : Sh}, SIfs c sc ifs f → PTs X ifs (tTest (tE c.T W0 f))
  | [], f, h => by
    cases h
    exact ⟨fun pins s σ H Q I ⟨fz, ph, ρ, st, s1, e, q⟩ => pts_nil.run pins s σ H Q I (by
      obtain ⟨k, e1, q⟩ := RP.here (d := .bl true) (u := .bl true) q s1 (by simp only [Rep])
      cases e1
      exact q)⟩
  | [t], f, h => pts_one (h X W0 hX tk)
  | _ :: _ :: _, f, h => h.elim
section
variable {c : Cd} {sc scope : Scope} {elt tg iter : PySem.Expr} {ifs : List PySem.Expr} {fi : Env → Store → R (List D)} {t : Tgd} {ft fe : Sh} {own : List (Str × Nat)} {pos spos py : Pos}
structure LcOk (c : Cd) (sc scope : Scope) (tg iter elt : PySem.Expr) (ifs : List PySem.Expr) (fi : Env → Store → R (List D)) (t : Tgd) (ft fe : Sh) (own : List (Str × Nat)) : Prop where
  it : SI c true sc tg iter fi
  bk : blkC c.N sc scope own = true
  tg : tgdB scope (relS scope sc) c.N t tg = true
  fs : SIfs c (relS scope sc) ifs ft
  el : SE c true (relS scope sc) elt fe
  vs : (t.all.all fun i => (own.map (·.2)).contains i) = true
  st : notSet iter = true
theorem LcOk.mem (h : LcOk c sc scope tg iter elt ifs fi t ft fe own) : ∀ i ∈ t.all, i ∈ own.map (·.2) := fun i hi => by
  have := List.all_eq_true.mp h.vs i hi
  simpa using this
theorem pe_lcD {X : Cx} {W : WX} (h : LcOk c sc scope tg iter elt ifs fi t ft fe own) (hX : Ctx c true sc X) (tk : Takes X W) :
    PE X (.ListComp elt [⟨tg, iter, ifs, 0⟩] scope pos) (tLc (tI c.T W fi) (tgT c.T.K t) (tTest (tE c.T W0 ft)) (tE c.T W0 fe) (own.map (·.2))) :=
  pe_lc (hX.calm rfl).1 (by rw [hX.N]; exact hX.nd) (h.it X W hX tk) (by rw [hX.N, hX.sc]; exact blkOk_by h.bk)
    (fun s H C cl fp => by rw [← hX.K]; exact pg_tgd (hX.blk s H C cl fp) rfl h.tg) (fun s H C cl fp => pts_ifs (hX.blk s H C cl fp) takes0 h.fs) (fun s H C cl fp => h.el _ W0 (hX.blk s H C cl fp) takes0) (folded_ok h.st)
theorem se_lc (h : LcOk c sc scope tg iter elt ifs fi t ft fe own) : SE c true sc (.ListComp elt [⟨tg, iter, ifs, 0⟩] scope pos) (shLc fi t ft fe (own.map (·.2))) := fun X W hX tk =>
  peI (pe_lcD h hX tk) fun σ H Q ⟨fz, ph, ρ, st, s, e, q⟩ => lc_step h.mem s e (rl_of q)
theorem se_lcM (h : LcOk c sc scope tg iter elt ifs fi t ft fe own) : SE c true sc (.ListComp elt [⟨tg, iter, ifs, 0⟩] scope pos) (shLcM fi t ft fe (own.map (·.2))) := fun X W hX tk =>
  peI (pe_lcD h hX tk) fun σ H Q ⟨fz, ph, ρ, st, s, e, q⟩ => lc_step h.mem s e (rl_ofM q)
/-- name = [..] on one line -/
def lineC (sc scope : Scope) (y : Str) (pos py : Pos) : Bool := (match sc.kind with | .function => true | _ => false) && (match sc.names.lookup y with | some .local => true | _ => false) && (py.line == pos.line) && !(scope.names.any fun (n, k) => n == y && (k == .local || k == .cell))
theorem ps_setLcD {X : Cx} {W : WX} {i : Nat} {y : Str} (h : LcOk c sc scope tg iter elt ifs fi t ft fe own) (hX : CtxS c sc X) (tk : Takes X W) (hi : c.N[i]? = some y) (hl : lineC sc scope y pos py = true) :
    PS X (.Assign [.Name y py] (.ListComp elt [⟨tg, iter, ifs, 0⟩] scope pos) spos) (tAsg (tLc (tI c.T W fi) (tgT c.T.K t) (tTest (tE c.T W0 ft)) (tE c.T W0 fe) (own.map (·.2))) (gName i)) := by
  unfold lineC at hl
  simp only [Bool.and_eq_true] at hl
  obtain ⟨⟨⟨l1, l2⟩, l3⟩, l4⟩ := hl
  have ly : X.env.scope.names.lookup y = some .local := by
    rw [hX.ctx.sc]
    split at l2 <;> simp_all
  have lk : X.env.scope.kind = .function := by
    rw [hX.ctx.sc]
    split at l1 <;> simp_all
  exact ps_setLc (hX.ctx.calm rfl).1 (by rw [hX.ctx.N]; exact hX.ctx.nd) (by rw [hX.ctx.N]; exact hi) ly (sw_true lk ly l3 (by simpa using l4)) (h.it X W hX.ctx tk) (by rw [hX.ctx.N, hX.ctx.sc]; exact blkOk_by h.bk)
    (fun s H C cl fp => by rw [← hX.ctx.K]; exact pg_tgd (hX.ctx.blk s H C cl fp) rfl h.tg) (fun s H C cl fp => pts_ifs (hX.ctx.blk s H C cl fp) takes0 h.fs) (fun s H C cl fp => h.el _ W0 (hX.ctx.blk s H C cl fp) takes0) (folded_ok h.st)
theorem set_of {T : Pa} {W : WX} {fz H : Hp} {ph : List Addr} {σ : L2.St} {De : Ends} {ρ : Env} {st : Store} {i : Nat} {f : Sh} (e : EOk T fz ph ρ σ) (h : RQ T W fz ph H De ((f ρ st).toS ρ fun d st => .nx (ρ.set i (.v d)) st)) :
    RP T W fz ph σ H (fun x H1 => gName i x σ H1 De.nx) (f ρ st) :=
  RQ.step (k := fun d st => .nx (ρ.set i (.v d)) st) e h fun d st1 fz1 ph1 H1 u x1 s1 e1 r1 q1 => q1 fz1 ph1 _ H1 (.refl _ _ _) s1 (e1.set r1)
theorem ss_setLc {i : Nat} {y : Str} (h : LcOk c sc scope tg iter elt ifs fi t ft fe own) (hi : c.N[i]? = some y) (hl : lineC sc scope y pos py = true) :
    SS c sc (.Assign [.Name y py] (.ListComp elt [⟨tg, iter, ifs, 0⟩] scope pos) spos) (fun ρ st => (shLc fi t ft fe (own.map (·.2)) ρ st).toS ρ fun d st => .nx (ρ.set i (.v d)) st) := fun X W hX tk hp =>
  psI (ps_setLcD h hX tk hi hl) fun De σ H ⟨fz, ph, ρ, st, s, e, q⟩ => lc_step h.mem s e (rl_of (set_of e q))
theorem ss_setLcM {i : Nat} {y : Str} (h : LcOk c sc scope tg iter elt ifs fi t ft fe own) (hi : c.N[i]? = some y) (hl : lineC sc scope y pos py = true) :
    SS c sc (.Assign [.Name y py] (.ListComp elt [⟨tg, iter, ifs, 0⟩] scope pos) spos) (fun ρ st => (shLcM fi t ft fe (own.map (·.2)) ρ st).toS ρ fun d st => .nx (ρ.set i (.v d)) st) := fun X W hX tk hp =>
  psI (ps_setLcD h hX tk hi hl) fun De σ H ⟨fz, ph, ρ, st, s, e, q⟩ => lc_step h.mem s e (rl_ofM (set_of e q))
end
end DV

namespace DV
open PySem PySem.Spec PyProof.Rows L2

/-! ### what a def is worth -/
def FnG (T : Pa) (P : Program) (w : World) (mg : Str → Option Value) (base : Heap) (k : Nat) (f : Addr) (kws : List Str) (g : Fn) : Prop :=
  ∀ (A : Around) (outer : List PySem.Env) (s : Shared) (H : Hp) (us zs : List Value) (vs ys : List V) (Q : VK) (E : XK) (fz : Hp) (ph : List Addr) (st : Store) (ds : List D),
    Room k A → A.guards = some [] → Env0 P w T.K mg base A outer s H → Vals vs us → Vals ys zs → ys.length = kws.length → SOk T fz ph st H → Reps T.K T.L fz ph ds (vs ++ ys) →
    RP T (fun cls d _ H' => E cls d H') fz ph [] H Q (g ds st) → codeAny (model P w) A (.call (.ref f) ⟨us, kws.zip zs⟩) (CR (L2.CX P w) outer P w H s Q E) s
theorem FnG.mono {T : Pa} {P : Program} {w : World} {mg : Str → Option Value} {base : Heap} {j k : Nat} {f : Addr} {kws : List Str} {g : Fn} (F : FnG T P w mg base j f kws g) (h : j ≤ k) : FnG T P w mg base k f kws g :=
  fun A outer s H us zs vs ys Q E fz ph st ds hr hg => F A outer s H us zs vs ys Q E fz ph st ds (hr.mono h) hg
theorem FnG.stuck {T : Pa} {P : Program} {w : World} {mg : Str → Option Value} {base : Heap} {k : Nat} {f : Addr} {kws : List Str} : FnG T P w mg base k f kws (fun _ _ => .stuck) :=
  fun A outer s H us zs vs ys Q E fz ph st ds hr hg e0 r rz hl so rd h => h.elim
theorem RP.conv {T : Pa} {W W' : WX} {fz H : Hp} {ph : List Addr} {σ σ' : L2.St} {Q : VK} {r : R D} (h : RP T W fz ph σ H Q r) (hw : ∀ cls d H', W cls d σ H' → W' cls d σ' H') : RP T W' fz ph σ' H Q r := by
  cases r with
  | ok d st => exact h
  | ex c fs st => exact fun f p H' cls d x s q => hw _ _ _ (h f p H' cls d x s q)
  | stuck => exact h
section
variable {c : Cd} {sc : Scope} {X : Cx} {W : WX}
theorem run_G {f : Addr} {kws : List Str} {g : Fn} {pins : List (Addr × Obj)} {σ : L2.St} {H : Hp} {s : Shared} {us zs : List Value} {vs ys : List V} {Q : VK} {fz : Hp} {ph : List Addr} {st : Store} {ds : List D}
    (F : FnG c.T c.P c.w c.mg c.base c.k f kws g) (hX : Ctx c true sc X) (tk : Takes X W) (I : Inv X pins σ H s) (r : Vals vs us) (rz : Vals ys zs) (hl : ys.length = kws.length) (so : SOk c.T fz ph st H) (rd : Reps c.T.K c.T.L fz ph ds (vs ++ ys))
    (h : RP c.T W fz ph σ H Q (g ds st)) : wpAny (model X.prog X.w) X.A (call (.ref f) us (kws.zip zs)) (EP X pins σ Q) X.xe s := by
  have e0 := I.env0
  rw [hX.prog, hX.w, hX.K, hX.mg, hX.base] at e0
  have go := F X.A X.stack s H us zs vs ys Q (fun cls d H' => W cls d σ H') fz ph st ds (hX.calm rfl).2.room hX.gd e0 r rz hl so rd (h.conv fun cls d H' q => q)
  rw [← hX.prog, ← hX.w] at go
  refine wpAny_call (codeAny_mono go fun r s' hq => ?_)
  cases r with
  | error e => exact tk e s' (XE.of_call I (fun _ _ _ h => h) hq)
  | ok fl =>
    cases fl with
    | ret u => exact I.after hq
    | next => exact False.elim hq
    | brk => exact False.elim hq
    | cont => exact False.elim hq
end

/-! ### keywords -/
def kwB (kws : List Keyword) (names : List Str) : Bool := kws.map (·.arg) == names.map some
theorem kw_map {pos : Pos} {env : PySem.Env} : ∀ kws : List Keyword, (backToKw pos (keywordEach kws env)).map (·.1) = kws.map (·.arg)
  | [] => rfl
  | ⟨n, v, p⟩ :: rest => by
    have ih := kw_map (pos := pos) (env := env) rest
    show n :: (backToKw pos (keywordEach rest env)).map (·.1) = n :: rest.map (·.arg)
    rw [ih]
theorem names_all {α : Type} {l : List (Option Str × α)} {names : List Str} (h : l.map (·.1) = names.map some) : l.all (·.1.isSome) = true ∧ l.filterMap (·.1) = names ∧ l.any (·.1.isNone) = false := by
  induction names generalizing l with
  | nil =>
    have e : l = [] := by simpa using h
    subst e
    exact ⟨rfl, rfl, rfl⟩
  | cons n ns ih =>
    cases l with
    | nil => simp at h
    | cons p l =>
      simp only [List.map_cons, List.cons.injEq] at h
      obtain ⟨h1, h2⟩ := h
      obtain ⟨a, b, c⟩ := ih h2
      obtain ⟨q, t⟩ := p
      simp only at h1
      subst h1
      refine ⟨by simpa using a, by simp [b], by simpa using c⟩
def SK (c : Cd) (cm : Bool) (sc : Scope) (kws : List Keyword) (names : List Str) (fs : List Sh) : Prop := kwB kws names = true ∧ fs.length = names.length ∧ ∀ X W, Ctx c cm sc X → Takes X W → PK X kws (tA c.T W fs)
theorem pkI {X : Cx} {e : List Keyword} {t u : TA} (h : PK X e t) (i : ∀ σ H Q, u σ H Q → t σ H Q) : PK X e u := ⟨fun w pins s σ H Q I q => h.run w pins s σ H Q I (i σ H Q q)⟩
section
variable {c : Cd} {cm : Bool} {sc : Scope} {a b : PySem.Expr} {es : List PySem.Expr} {fa fb fk : Sh} {fs fks : List Sh} {pos p2 : Pos} {kws : List Keyword} {names : List Str}
theorem RPs.here {T : Pa} {fz H : Hp} {ph : List Addr} {st : Store} {σ : L2.St} {W : WX} {Q : List V → Hp → Prop} {ds : List D} {us : List V} (h : RPs T W fz ph σ H Q (.ok ds st)) (s : SOk T fz ph st H) (r : Reps T.K T.L fz ph ds us) : Q us H := h fz ph H us (.refl _ _ _) s r
theorem sk_nil : SK c cm sc [] [] [] := ⟨rfl, rfl, fun X W hX tk => pkI pk_nil fun σ H Q h => by
  obtain ⟨fz, ph, ρ, st, s, e, h⟩ := h
  have h : RPs c.T W fz ph σ H Q (.ok [] st) := h
  exact h fz ph H [] (.refl _ _ _) s (by simp only [Reps])⟩
theorem sk_cons {n : Str} {p : Pos} (ha : SE c cm sc a fa) (hs : SK c cm sc kws names fs) : SK c cm sc (⟨some n, a, p⟩ :: kws) (n :: names) (fa :: fs) := ⟨by
    have := hs.1
    unfold kwB at this ⊢
    simpa using this, by simp [hs.2.1], fun X W hX tk =>
  pkI (pk_cons (ha X W hX tk) (hs.2.2 X W hX tk)) fun σ H Q h => by
    obtain ⟨fz, ph, ρ, st, s, e, h⟩ := h
    have h : RPs c.T W fz ph σ H Q ((fa ρ st).bind fun d st => (evs fs ρ st).bind fun ds st => .ok (d :: ds) st) := h
    exact ⟨fz, ph, ρ, st, s, e, RP.stepL h fun d st1 fz1 ph1 H1 u x1 s1 r1 h1 =>
      ⟨fz1, ph1, ρ, st1, s1, e.ext x1, RPs.stepL h1 fun ds st2 fz2 ph2 H2 us x2 s2 r2 h2 =>
        RPs.here h2 s2 (by simp only [Reps]; exact ⟨u, us, rfl, Rep.more x2.more d u r1, r2⟩)⟩⟩⟩
/-- the call's node: the arguments, the keywords, then the callee -/
theorem node {X : Cx} {pins : List (Addr × Obj)} {σ : L2.St} {H : Hp} {s : Shared} {Q : VK} {f : Value} {first : List Value} {t tk : TA} {R' : List V → List V → Hp → Prop} (hk : PySem.W.keepIn X.K f = true) (hs : notStars es = true) (hkw : kwB kws names = true)
    (ha : PA X es t) (hz : es = [] → ∀ σ H Q, t σ H Q → Q [] H) (hb : PK X kws tk) (I : Inv X pins σ H s) (h : t σ H fun vs H1 => tk σ H1 fun ys H2 => R' vs ys H2)
    (hc : ∀ (us zs : List Value) (vs ys : List V) (s2 : Shared) (H2 : Hp), Inv X pins σ H2 s2 → Vals vs us → Vals ys zs → R' vs ys H2 → wpAny (model X.prog X.w) X.A (call f (first ++ us) (names.zip zs)) (EP X pins σ Q) X.xe s2) :
    wpAny (model X.prog X.w) X.A (callWith pos f first (backTo pos (starEach es X.env)) (backToKw pos (keywordEach kws X.env))) (EP X pins σ Q) X.xe s := by
  have hm : (backToKw pos (keywordEach kws X.env)).map (·.1) = names.map some := by
    rw [kw_map]
    exact eq_of_beq hkw
  obtain ⟨n1, n2, n3⟩ := names_all hm
  cases es with
  | nil =>
    refine PySem.W.callWith_KW0 (h₀ := X.base) I.ok.mod.kin hk n1 ?_ (by rw [n3]; rfl)
    have h1 := hb.run pos pins s σ H _ I (hz rfl σ H _ h)
    refine thn h1 fun zs s2 ⟨ys, H2, I2, rz, q⟩ => ⟨I2.kIn, ?_⟩
    rw [n2]
    exact hc [] zs [] ys s2 H2 I2 .nil rz q
  | cons e es =>
    have hst : notStar e = true ∧ notStars es = true := by simpa [notStars] using hs
    refine PySem.W.callWith_KW (h₀ := X.base) I.ok.mod.kin hk n1 (thn (ha.run pos pins s σ H _ I h) fun us s1 ⟨vs, H1, I1, r, q⟩ => ?_) ?_ (star_each hst.1)
    · refine thn (hb.run pos pins s1 σ H1 _ I1 q) fun zs s2 ⟨ys, H2, I2, rz, q2⟩ => ⟨I2.kIn, ?_⟩
      rw [n2]
      exact hc us zs vs ys s2 H2 I2 r rz q2
    · rw [star_each hst.1]
      show (false || (backTo pos (starEach es X.env)).any (·.1) || (backToKw pos (keywordEach kws X.env)).any (·.1.isNone)) = false
      rw [star_none hst.2, n3]
      rfl
theorem tA_nil {T : Pa} {W : WX} (h : fs.length = es.length) : es = [] → ∀ (σ : L2.St) (H : Hp) (Q : List V → Hp → Prop), tA T W fs σ H Q → Q [] H := fun e σ H Q ⟨fz, ph, ρ, st, s, _, q⟩ => by
  subst e
  have : fs = [] := by simpa using h
  subst this
  have q : RPs T W fz ph σ H Q (.ok [] st) := q
  exact q fz ph H [] (.refl _ _ _) s (by simp only [Reps])
/-- the arguments, the keywords, then more -/
def evs2 (fs fks : List Sh) (k : List D → List D → Store → R D) : Sh := fun ρ st => (evs fs ρ st).bind fun ds st => (evs fks ρ st).bind fun es st => k ds es st
def Want (T : Pa) (W : WX) (σ : L2.St) (Q : VK) (k : List D → List D → Store → R D) (P0 : Hp → List Addr → Prop) (vs ys : List V) (H : Hp) : Prop :=
  ∃ fz ph st ds es, P0 fz ph ∧ SOk T fz ph st H ∧ Reps T.K T.L fz ph ds vs ∧ Reps T.K T.L fz ph es ys ∧ es.length = ys.length ∧ RP T W fz ph σ H Q (k ds es st)
theorem evs2_step {T : Pa} {W : WX} {σ : L2.St} {H : Hp} {Q : VK} {k : List D → List D → Store → R D} {fz : Hp} {ph : List Addr} {ρ : Env} {st : Store} {P0 : Hp → List Addr → Prop} (s : SOk T fz ph st H) (e : EOk T fz ph ρ σ) (h0 : P0 fz ph) (hm : ∀ fz ph fz' ph', More fz ph fz' ph' → P0 fz ph → P0 fz' ph') (h : RP T W fz ph σ H Q (evs2 fs fks k ρ st)) :
    tA T W fs σ H fun vs H1 => tA T W fks σ H1 fun ys H2 => Want T W σ Q k P0 vs ys H2 :=
  ⟨fz, ph, ρ, st, s, e, RPs.step (k := fun ds st => (evs fks ρ st).bind fun es st => k ds es st) h fun ds st1 fz1 ph1 H1 vs x1 s1 r1 q1 =>
    ⟨fz1, ph1, ρ, st1, s1, e.ext x1, RPs.step (k := fun es st => k ds es st) q1 fun es st2 fz2 ph2 H2 ys x2 s2 r2 q2 => ⟨fz2, ph2, st2, ds, es, hm _ _ _ _ (x1.trans x2).more h0, s2, Reps.more x2.more ds vs r1, r2, r2.length, q2⟩⟩⟩
def shCall (G : Gam) (n : Nat) (names : List Str) (fs fks : List Sh) : Sh := evs2 fs fks fun ds es st => if es.length = names.length then G n names (ds ++ es) st else .stuck
structure GOk (c : Cd) (x : Str) (n : Nat) : Prop where
  at_ : c.mg x = some (.ref (He.ga c.T.K x))
  kp : PySem.W.keepIn c.T.K (.ref (He.ga c.T.K x)) = true
  ok : ∀ kws, FnG c.T c.P c.w c.mg c.base c.k (He.ga c.T.K x) kws (c.G n kws)
/-- a def or a class of the module, by its name -/
theorem se_call {x : Str} {n : Nat} {pp : Pos} (g : GOk c x n) (hg : glB sc x = true) (ha : SA c true sc es fs) (hk : SK c true sc kws names fks) (hl : fs.length = es.length) (hd : (x == ("__debug__" : Str)) = false) :
    SE c true sc (.Call (.Name x pp) es kws pos) (shCall c.G n names fs fks) := fun X W hX tk => ⟨fun pins s σ H Q I ⟨fz, ph, ρ, st, so, e, h⟩ => by
  refine wpAny_Call_Name_kw (ld_glob I (glB_ok hX hg) (by rw [hX.mg]; exact g.at_) ?_ hd)
  refine node (first := []) (R' := Want c.T W σ Q (fun ds es st => if es.length = names.length then c.G n names (ds ++ es) st else .stuck) fun _ _ => True) (by rw [hX.K]; exact g.kp) ha.1 hk.1 (ha.2 X W hX tk) (tA_nil hl) (hk.2.2 X W hX tk) I (evs2_step so e True.intro (fun _ _ _ _ _ h => h) h) fun us zs vs ys s2 H2 I2 r rz q => ?_
  obtain ⟨fz2, ph2, st2, ds, es', _, so2, r1, r2, l2, q⟩ := q
  have q : RP c.T W fz2 ph2 σ H2 Q (if es'.length = names.length then c.G n names (ds ++ es') st2 else .stuck) := q
  by_cases z : es'.length = names.length
  · rw [if_pos z] at q
    exact run_G (us := us) (g.ok names) hX tk I2 r rz (by rw [← l2]; exact z) so2 (r1.append r2) q
  · rw [if_neg z] at q; exact q.elim⟩
/-! ### methods -/
structure ClsD (c : Cd) (C : Str) : Prop where
  cls : Cls c.T.K (He.ga c.T.K C)
/-- the method m of the class C is the def number n, at f -/
structure MOkD (c : Cd) (m C : Str) (n : Nat) : Prop where
  ex : ∃ f, Cls c.T.K (He.ga c.T.K C) ∧ Meth c.T.K (He.ga c.T.K C) m f ∧ ∀ kws, FnG c.T c.P c.w c.mg c.base c.k f kws (c.G n kws)
def D.insOf (d : D) (st : Store) : Option (Str × List (Str × D)) := match d with
  | .ins c fs => some (c, fs)
  | .ref l => (match st[l]? with
    | some (.ins c fs) => some (c, fs)
    | _ => none)
  | _ => none
theorem insOf_ok {T : Pa} {fz H : Hp} {ph : List Addr} {st : Store} {d : D} {u : V} {C : Str} {fs : List (Str × D)} (s : SOk T fz ph st H) (r : Rep T.K T.L fz ph d u) (e : d.insOf st = some (C, fs)) :
    ∃ a dx vs, u = .ref a ∧ H a = some (.ins (He.ga T.K C) dx vs) ∧ RepF T.K T.L fz ph fs vs := by
  cases d with
  | ins c' fs' =>
    cases (Option.some.inj e)
    obtain ⟨a, dx, vs, e1, ha, ra⟩ := rep_ins r
    exact ⟨a, dx, vs, e1, s.sub _ _ ha, ra⟩
  | ref l =>
    obtain ⟨a, e1, hp⟩ := rep_ref r
    have e : (match st[l]? with
      | some (.ins c fs) => some (c, fs)
      | _ => none) = some (C, fs) := e
    cases q : st[l]? with
    | none => rw [q] at e; cases e
    | some o =>
      rw [q] at e
      cases o with
      | ins c' fs' =>
        cases (Option.some.inj e)
        obtain ⟨dx, vs, h1, h2⟩ := s.mem l _ a q hp
        exact ⟨a, dx, vs, e1, h1, h2⟩
      | _ => cases e
  | _ => cases e
theorem repF_none {T : Pa} {fz : Hp} {ph : List Addr} {m : Str} : ∀ {fs : List (Str × D)} {vs : List (Str × V)}, RepF T.K T.L fz ph fs vs → fs.lookup m = none → vs.lookup m = none
  | [], _, r, _ => by simp only [RepF] at r; subst r; rfl
  | (f, d) :: fs, _, r, h => by
    simp only [RepF] at r
    obtain ⟨v, q, e, h1, h2⟩ := r
    subst e
    rw [List.lookup_cons] at h ⊢
    split at h
    · cases h
    · exact repF_none h2 h
theorem repF_some {T : Pa} {fz : Hp} {ph : List Addr} {m : Str} {d : D} : ∀ {fs : List (Str × D)} {vs : List (Str × V)}, RepF T.K T.L fz ph fs vs → fs.lookup m = some d → ∃ v, vs.lookup m = some v ∧ Rep T.K T.L fz ph d v
  | [], _, r, h => by cases h
  | (f, d') :: fs, _, r, h => by
    simp only [RepF] at r
    obtain ⟨v, q, e, h1, h2⟩ := r
    subst e
    rw [List.lookup_cons] at h ⊢
    split at h
    · cases (Option.some.inj h)
      exact ⟨v, rfl, h1⟩
    · exact repF_some h2 h
theorem repF_len {T : Pa} {fz : Hp} {ph : List Addr} : ∀ {fs : List (Str × D)} {vs : List (Str × V)}, RepF T.K T.L fz ph fs vs → fs.length = vs.length
  | [], _, r => by simp only [RepF] at r; subst r; rfl
  | (f, d') :: fs, _, r => by
    simp only [RepF] at r
    obtain ⟨v, q, e, h1, h2⟩ := r
    subst e
    simp [repF_len h2]
def methN (tab : List (Str × Nat)) (m : Str) (d : D) (st : Store) : Option Nat := match d.insOf st with
  | some (c, fs) => (match fs.lookup m with
    | none => tab.lookup c
    | some _ => none)
  | none => none
def shMeth (G : Gam) (tab : List (Str × Nat)) (m : Str) (fo : Sh) (names : List Str) (fs fks : List Sh) : Sh := fun ρ st => (fo ρ st).bind fun d st => match methN tab m d st with
  | some n => evs2 fs fks (fun ds es st => if es.length = names.length then G n names (d :: ds ++ es) st else .stuck) ρ st
  | none => .stuck
def notSuper : PySem.Expr → Bool
  | .Name _ _ => true
  | .Attribute _ _ _ => true
  | .Subscript _ _ _ => true
  | .BinOp _ _ _ _ => true
  | .Call (.Name x _) _ _ _ => x != "super"
  | .Call (.Attribute _ _ _) _ _ _ => true
  | _ => false
theorem se_meth {m : Str} {tab : List (Str × Nat)} {o : PySem.Expr} {fo : Sh} {apos : Pos} {pl : PySem.Env → Sem Bool} (g : ∀ C n, tab.lookup C = some n → MOkD c m C n) (ho : SE c true sc o fo) (ha : SA c true sc es fs) (hk : SK c true sc kws names fks) (hl : fs.length = es.length)
    (ht : ∀ env, eval (.Call (.Attribute o m apos) es kws pos) env = (do
      let ov ← eval o env
      standAt apos.atName
      let (f, first) ← holding [ov] (getMethod ov m (pl env))
      callWith pos f first (backTo pos (starEach es env)) (backToKw pos (keywordEach kws env)))) :
    SE c true sc (.Call (.Attribute o m apos) es kws pos) (shMeth c.G tab m fo names fs fks) := fun X W hX tk => ⟨fun pins s σ H Q I ⟨fz, ph, ρ, st, so, e, h⟩ => by
  have h : RP c.T W fz ph σ H Q ((fo ρ st).bind fun d st => match methN tab m d st with
    | some n => evs2 fs fks (fun ds es st => if es.length = names.length then c.G n names (d :: ds ++ es) st else .stuck) ρ st
    | none => .stuck) := h
  refine PySem.W.methodCall_KW (pl := pl X.env) (thn ((ho X W hX tk).run pins s σ H _ I ⟨fz, ph, ρ, st, so, e, RP.step (α := D) h (Q' := fun u H1 => ∃ fz1 ph1 st1 d n, SOk c.T fz1 ph1 st1 H1 ∧ EOk c.T fz1 ph1 ρ σ ∧ Rep c.T.K c.T.L fz1 ph1 d u ∧ methN tab m d st1 = some n ∧
      RP c.T W fz1 ph1 σ H1 Q (evs2 fs fks (fun ds es st => if es.length = names.length then c.G n names (d :: ds ++ es) st else .stuck) ρ st1)) fun d st1 fz1 ph1 H1 u x1 s1 r1 q1 => ?_⟩) fun u s1 ⟨x, H1, I1, rx, fz1, ph1, st1, d, n, so1, e1, r1, hn, q1⟩ => ?_) (ht _)
  · cases q : methN tab m d st1 with
    | none => rw [q] at q1; exact q1.elim
    | some n => rw [q] at q1; exact ⟨fz1, ph1, st1, d, n, s1, e.ext x1, r1, q, q1⟩
  · unfold methN at hn
    cases q : d.insOf st1 with
    | none => rw [q] at hn; cases hn
    | some cf =>
      obtain ⟨C, ff⟩ := cf
      rw [q] at hn
      have hn : (match ff.lookup m with
        | none => tab.lookup C
        | some _ => none) = some n := hn
      cases q2 : ff.lookup m with
      | some _ => rw [q2] at hn; cases hn
      | none =>
        rw [q2] at hn
        obtain ⟨a, dx, vs, eu, ha', ra⟩ := insOf_ok so1 r1 q
        obtain ⟨f, hc, hm, F⟩ := (g C n hn).ex
        subst eu
        obtain rfl : u = Value.ref a := rx
        rw [← hX.K] at hc hm ha'
        refine getmeth_ok I1 ha' hc hm (repF_none ra q2) ?_
        refine node (first := [.ref a]) (R' := Want c.T W σ Q (fun ds es st => if es.length = names.length then c.G n names (d :: ds ++ es) st else .stuck) fun fz ph => Rep c.T.K c.T.L fz ph d (.ref a)) hm.kp ha.1 hk.1 (ha.2 X W hX tk) (tA_nil hl) (hk.2.2 X W hX tk) I1 ?_ fun us zs vs' ys s2 H2 I2 r rz q => ?_
        · exact evs2_step so1 e1 r1 (fun _ _ _ _ m h => Rep.more m d _ h) q1
        · obtain ⟨fz2, ph2, st2, ds, es', r0, so2, r1, r2, l2, q⟩ := q
          have q : RP c.T W fz2 ph2 σ H2 Q (if es'.length = names.length then c.G n names (d :: ds ++ es') st2 else .stuck) := q
          by_cases z : es'.length = names.length
          · rw [if_pos z] at q
            exact run_G (us := .ref a :: us) (vs := .ref a :: vs') (F names) hX tk I2 (.cons rfl r) rz (by rw [← l2]; exact z) so2 (by simp only [List.cons_append, Reps]; exact ⟨_, _, rfl, r0, r1.append r2⟩) q
          · rw [if_neg z] at q; exact q.elim⟩
end
end DV

namespace DV
open PySem PySem.Spec PyProof.Rows L2

/-! ### attributes -/
def shAttr (cs : List Str) (f : Str) (fo : Sh) : Sh := fun ρ st => (fo ρ st).bind fun d st => match d.insOf st with
  | some (c, fs) => if cs.contains c then okO (fs.lookup f) st else .stuck
  | none => .stuck
/-- f is a plain field of these classes -/
def AtOk (c : Cd) (cs : List Str) (f : Str) : Prop := ∀ C, cs.contains C = true → Cls c.T.K (He.ga c.T.K C) ∧ NoAttr c.T.K (He.ga c.T.K C) f
theorem base_plain {e : PySem.Expr} {f : Str} {env : PySem.Env} (h : notSuper e = true) : attributeBase e f env (eval e env) = eval e env := by
  cases e with
  | Name _ _ => rfl
  | Attribute _ _ _ => rfl
  | Subscript _ _ _ => rfl
  | BinOp _ _ _ _ => rfl
  | Call fe es kws p =>
    cases fe with
    | Name x q =>
      have hx : (x != ("super" : Str)) = true := h
      clear h
      cases es with
      | nil =>
        cases kws with
        | nil =>
          unfold attributeBase
          simp only [hx, Bool.true_or, if_true]
        | cons _ _ => rfl
      | cons _ _ => rfl
    | Attribute _ _ _ => rfl
    | _ => exact Bool.noConfusion h
  | _ => exact Bool.noConfusion h
section
variable {c : Cd} {cm : Bool} {sc : Scope} {a b o : PySem.Expr} {es : List PySem.Expr} {fa fb fo : Sh} {fs fks : List Sh} {pos p2 apos : Pos} {f : Str} {cs : List Str}
theorem se_attr (hc : AtOk c cs f) (ho : SE c cm sc o fo) (hs : notSuper o = true) : SE c cm sc (.Attribute o f pos) (shAttr cs f fo) := fun X W hX tk =>
  peI (pe_fld (ho X W hX tk) (base_plain hs)) fun σ H Q h => tE.step (k := fun d _ st => match d.insOf st with
    | some (c, fs) => if cs.contains c then okO (fs.lookup f) st else .stuck
    | none => .stuck) h fun d ρ st fz ph H1 x s e rx q => by
      cases q1 : d.insOf st with
      | none => rw [q1] at q; exact q.elim
      | some cf =>
        obtain ⟨C, ff⟩ := cf
        rw [q1] at q
        have q : RP c.T W fz ph σ H1 Q (if cs.contains C = true then okO (ff.lookup f) st else .stuck) := q
        by_cases z : cs.contains C = true
        · rw [if_pos z] at q
          obtain ⟨v, e1, q⟩ := okO_ok q
          obtain ⟨a, dx, vs, eu, ha', ra⟩ := insOf_ok s rx q1
          obtain ⟨u, hu, ru⟩ := repF_some ra e1
          rw [hX.K]
          exact ⟨a, _, dx, vs, u, eu, ha', (hc C z).1, (hc C z).2, hu, q.here s ru⟩
        · rw [if_neg z] at q; exact q.elim
def putFD (f : Str) (v : D) : List (Str × D) → List (Str × D)
  | [] => [(f, v)]
  | (g, x) :: r => if g = f then (g, v) :: r else (g, x) :: putFD f v r
theorem repF_put {T : Pa} {fz : Hp} {ph : List Addr} {f : Str} {d : D} {v : V} (r : Rep T.K T.L fz ph d v) : ∀ {fs : List (Str × D)} {vs : List (Str × V)}, RepF T.K T.L fz ph fs vs → RepF T.K T.L fz ph (putFD f d fs) (putF f v vs)
  | [], _, h => by
    simp only [RepF] at h
    subst h
    simp only [putFD, putF, RepF]
    exact ⟨v, [], rfl, r, rfl⟩
  | (g, x) :: fs, _, h => by
    simp only [RepF] at h
    obtain ⟨w, q, e, h1, h2⟩ := h
    subst e
    by_cases z : g = f
    · simp only [putFD, putF, if_pos z, RepF]
      exact ⟨v, q, rfl, r, h2⟩
    · simp only [putFD, putF, if_neg z, RepF]
      exact ⟨w, _, rfl, h1, repF_put r h2⟩
def putAP (cs : List Str) (f : Str) (d x : D) (st : Store) : R D := match d with
  | .ref l => (match st[l]? with
    | some (.ins c fs) => if cs.contains c && decide (fs.length < 1000) then .ok .non (st.set l (.ins c (putFD f x fs))) else .stuck
    | _ => .stuck)
  | _ => .stuck
/-- o.f = value -/
def stAttr (cs : List Str) (f : Str) (fv fo : Sh) : Ss := fun ρ st => (fv ρ st).toS ρ fun x st => (fo ρ st).toS ρ fun d st => (putAP cs f d x st).toS ρ fun _ st => .nx ρ st
theorem ss_attr (hc : AtOk c cs f) (hv : SE c true sc a fa) (ho : SE c true sc o fo) (hs : swaps a = false) : SS c sc (.Assign [.Attribute o f p2] a pos) (stAttr cs f fa fo) := fun X W hX tk hp =>
  psI (ps_fld (ho X W hX.ctx tk) (hv X W hX.ctx tk) (swaps_no hs)) fun De σ H h => tS.step (k := fun x ρ st => (fo ρ st).toS ρ fun d st => (putAP cs f d x st).toS ρ fun _ st => .nx ρ st) h fun x ρ st fz ph H1 u s e r q =>
    ⟨fz, ph, ρ, st, s, e, RQ.step (k := fun d st => (putAP cs f d x st).toS ρ fun _ st => .nx ρ st) e q fun d st2 fz2 ph2 H2 w x2 s2 e2 r2 q2 => by
      cases d with
      | ref l =>
        obtain ⟨ad, e1, hp⟩ := rep_ref r2
        have q2 : RQ c.T W fz2 ph2 H2 De (R.toS (match st2[l]? with
          | some (.ins c fs) => if cs.contains c && decide (fs.length < 1000) then (R.ok D.non (st2.set l (MO.ins c (putFD f x fs))) : R D) else .stuck
          | _ => .stuck) ρ fun _ st => .nx ρ st) := q2
        cases q : st2[l]? with
        | none => rw [q] at q2; exact q2.elim
        | some ob =>
          rw [q] at q2
          cases ob with
          | ins C ff =>
            have q2 : RQ c.T W fz2 ph2 H2 De (R.toS (if (cs.contains C && decide (ff.length < 1000)) = true then (R.ok D.non (st2.set l (MO.ins C (putFD f x ff))) : R D) else .stuck) ρ fun _ st => .nx ρ st) := q2
            by_cases z : (cs.contains C && decide (ff.length < 1000)) = true
            · rw [if_pos z] at q2
              obtain ⟨z1, z2⟩ := Bool.and_eq_true_iff.mp z
              obtain ⟨dx, vs, hv', rv⟩ := s2.mem l _ ad q hp
              rw [hX.ctx.K]
              have rx := Rep.more x2.more x u r
              exact ⟨ad, _, dx, vs, e1, hv', (hc C z1).1, (hc C z1).2, by rw [← repF_len rv]; exact of_decide_eq_true z2, q2 fz2 ph2 σ _ (Ext.put s2 hp) (s2.put q hp rfl ⟨dx, _, upd_same, repF_put rx rv⟩) e2⟩
            · rw [if_neg z] at q2; exact q2.elim
          | _ => exact q2.elim
      | _ => exact q2.elim⟩
/-! ### xs.append(v) -/
def appP (d x : D) (st : Store) : R D := match d with
  | .ref l => (match st[l]? with
    | some (.lst xs) => if xs.length < sizeLine then .ok .non (st.set l (.lst (xs ++ [x]))) else .stuck
    | _ => .stuck)
  | _ => .stuck
def shApp (fo fa : Sh) : Sh := fun ρ st => (fo ρ st).bind fun d st => match d with
  | .ref l => (match st[l]? with
    | some (.lst _) => (fa ρ st).bind fun x st => appP d x st
    | _ => .stuck)
  | _ => .stuck
theorem se_append {cpos : Pos} (ho : SE c cm sc o fo) (ha : SE c cm sc a fa) (hn : notStar a = true) (hs : notSuper o = true) (hline : (apos.endLine == cpos.line) = true) : SE c cm sc (.Call (.Attribute o "append" apos) [a] [] cpos) (shApp fo fa) := fun X W hX tk =>
  peI (pe_bm PySem.F.plainAttrs_list PySem.F.slot_list_append PySem.F.type_list_append mt_append (ho X W hX tk) (pa_cons (ha X W hX tk) pa_nil (star_each hn)) (base_plain hs) (by rw [star_each hn]; rfl) hline (star_each hn) rfl) fun σ H Q h =>
    tE.step (k := fun d ρ st => match d with
      | .ref l => (match st[l]? with
        | some (.lst _) => (fa ρ st).bind fun x st => appP d x st
        | _ => .stuck)
      | _ => .stuck) h fun d ρ st fz ph H1 u s e r q => by
        cases d with
        | ref l =>
          obtain ⟨ad, e1, hp⟩ := rep_ref r
          have q : RP c.T W fz ph σ H1 Q (match st[l]? with
            | some (.lst _) => (fa ρ st).bind fun x st => appP (.ref l) x st
            | _ => .stuck) := q
          cases q1 : st[l]? with
          | none => rw [q1] at q; exact q.elim
          | some ob =>
            rw [q1] at q
            cases ob with
            | lst xs =>
              have q : RP c.T W fz ph σ H1 Q ((fa ρ st).bind fun x st => appP (.ref l) x st) := q
              obtain ⟨vs, hv, rv⟩ := s.mem l _ ad q1 hp
              rw [e1]
              refine ⟨.inl ⟨rfl, vs, .inl (.inl hv)⟩, fz, ph, ρ, st, s, e, RP.step (α := D) q fun x st2 fz2 ph2 H2 w x2 s2 r2 q2 => ?_⟩
              have hp2 : ph2[l]? = some ad := by
                obtain ⟨t, et⟩ := x2.more.ph
                rw [et, List.getElem?_append_left (List.getElem?_eq_some_iff.mp hp).1]
                exact hp
              have q2 : RP c.T W fz2 ph2 σ H2 Q (match st2[l]? with
                | some (.lst xs) => if xs.length < sizeLine then .ok .non (st2.set l (.lst (xs ++ [x]))) else .stuck
                | _ => .stuck) := q2
              cases q3 : st2[l]? with
              | none => rw [q3] at q2; exact q2.elim
              | some ob =>
                rw [q3] at q2
                cases ob with
                | lst ys =>
                  have q2 : RP c.T W fz2 ph2 σ H2 Q (if ys.length < sizeLine then .ok .non (st2.set l (.lst (ys ++ [x]))) else .stuck) := q2
                  by_cases z : ys.length < sizeLine
                  · rw [if_pos z] at q2
                    obtain ⟨ws, hw, rw'⟩ := s2.mem l _ ad q3 hp2
                    exact ⟨ad, ws, w, rfl, rfl, hw, by rw [← rw'.length]; exact z, q2 fz2 ph2 _ .non (Ext.put s2 hp2) (s2.put q3 hp2 rfl ⟨_, upd_same, reps_snoc rw' r2⟩) (by simp only [Rep])⟩
                  · rw [if_neg z] at q2; exact q2.elim
                | _ => exact q2.elim
            | _ => exact q.elim
        | _ => exact q.elim
end

/-! ### a def by its body -/
def endR : RS → R D
  | .nx _ st => .ok .non st
  | .rt d st => .ok d st
  | .ex c fs _ st => .ex c fs st
  | _ => .stuck
def startD (N : List Str) (ds : List D) : Env := ds.map .v ++ List.replicate (N.length - ds.length) .un
/-- the ways in which a def's parameters are bound: the keywords, the number of values ahead of them, where each parameter's value stands -/
abbrev Shapes := List (List Str × Nat × List Nat)
def bindD (sh : Shapes) (star : Bool) (kws : List Str) (ds : List D) : Option (List D) := match sh.find? fun p => p.1 == kws && (if star && kws.isEmpty then decide (p.2.1 ≤ ds.length) else p.2.1 + kws.length == ds.length) with
  | some (_, n, ix) => if star then (let k := if kws.isEmpty then n else n; let rest := if kws.isEmpty then ds.drop n else []
      if rest.length ≤ sizeLine then some ((ix.map fun i => (ds.take (k + kws.length)).getD i .non) ++ [.tup rest]) else none)
    else some (ix.map fun i => ds.getD i .non)
  | none => none
structure BindA (fd : FuncData) (ps : List Str) (kws : List Str) (n : Nat) (ix : List Nat) : Prop where
  to : ∀ us zs : List Value, us.length = n → zs.length = kws.length → bindArgs fd ⟨us, kws.zip zs⟩ = pure (ps.zip (ix.map fun i => (us ++ zs).getD i .none))
  len : ix.length = ps.length
  lt : ∀ i ∈ ix, i < n + kws.length
/-- with a star parameter behind: us may be longer if there are no keywords -/
structure BindS (fd : FuncData) (ps : List Str) (pv : Str) (kws : List Str) (n : Nat) (ix : List Nat) : Prop where
  to : ∀ us rest zs : List Value, us.length = n → zs.length = kws.length → (kws ≠ [] → rest = []) → bindArgs fd ⟨us ++ rest, kws.zip zs⟩ = (newTuple rest >>= fun t => pure (ps.zip (ix.map fun i => (us ++ zs).getD i .none) ++ [(pv, t)]))
  len : ix.length = ps.length
  lt : ∀ i ∈ ix, i < n + kws.length
section
variable {T : Pa} {P : Program} {w : World} {mg : Str → Option Value} {base : Heap} {fz H : Hp} {ph : List Addr} {st : Store}
theorem getD_vals : ∀ {vs : List V} {us : List Value} (i : Nat), Vals vs us → i < vs.length → RelV (vs.getD i .non) (us.getD i .none)
  | [], _, _, _, h => by simp at h
  | v :: vs, _, 0, .cons r _, _ => r
  | v :: vs, _, i + 1, .cons _ t, h => by
    simp only [List.getD_cons_succ]
    exact getD_vals i t (by simpa using h)
theorem map_vals {vs : List V} {us : List Value} (r : Vals vs us) : ∀ (ix : List Nat), (∀ i ∈ ix, i < vs.length) → Vals (ix.map fun i => vs.getD i .non) (ix.map fun i => us.getD i .none)
  | [], _ => .nil
  | i :: ix, h => .cons (getD_vals i r (h i List.mem_cons_self)) (map_vals r ix fun j hj => h j (List.mem_cons_of_mem _ hj))
theorem getD_reps : ∀ {ds : List D} {us : List V} (i : Nat), Reps T.K T.L fz ph ds us → i < ds.length → Rep T.K T.L fz ph (ds.getD i .non) (us.getD i .non)
  | [], _, _, _, h => by simp at h
  | d :: ds, _, i, r, h => by
    simp only [Reps] at r
    obtain ⟨v, q, e, h1, h2⟩ := r
    subst e
    cases i with
    | zero => exact h1
    | succ i =>
      simp only [List.getD_cons_succ]
      exact getD_reps i h2 (by simpa using h)
theorem map_reps {ds : List D} {us : List V} (r : Reps T.K T.L fz ph ds us) : ∀ (ix : List Nat), (∀ i ∈ ix, i < ds.length) → Reps T.K T.L fz ph (ix.map fun i => ds.getD i .non) (ix.map fun i => us.getD i .non)
  | [], _ => by simp only [List.map_nil, Reps]
  | i :: ix, h => by
    simp only [List.map_cons, Reps]
    exact ⟨_, _, rfl, getD_reps i r (h i List.mem_cons_self), map_reps r ix fun j hj => h j (List.mem_cons_of_mem _ hj)⟩
theorem eok_start {N : List Str} : ∀ {ds : List D} {vs : List V}, Reps T.K T.L fz ph ds vs → EOk T fz ph (startD N ds) (start N vs) := fun {ds vs} r => by
  have hl := r.length
  refine ⟨by simp [startD, L2.start, hl], fun i s u h1 h2 => ?_⟩
  unfold startD at h1
  unfold L2.start at h2
  by_cases z : i < ds.length
  · rw [List.getElem?_append_left (by simpa using z)] at h1
    rw [List.getElem?_append_left (by simpa [← hl] using z)] at h2
    simp only [List.getElem?_map, Option.map_eq_some_iff] at h1 h2
    obtain ⟨d, e1, e2⟩ := h1
    obtain ⟨v, e3, e4⟩ := h2
    subst e2 e4
    obtain ⟨u', hu, ru⟩ := r.get e1
    rw [hu] at e3
    cases e3
    exact ⟨_, rfl, ru⟩
  · rw [List.getElem?_append_right (by simpa using z)] at h1
    rw [List.getElem?_replicate] at h1
    split at h1
    · cases h1; exact True.intro
    · cases h1
structure DefOk (T : Pa) (f : Addr) (name qual : Str) (params : Arguments) (body : List Stmt) (scope : Scope) (N ps : List Str) (fd : FuncData) : Prop where
  ex : ∃ (oc dV kV doc pm cdv ct : Value) (an od : Option Addr) (osl : Array (Option Value)), T.K.lookup f = some ⟨oc, od, .func (PySem.W.fnOf name qual params body scope dV kV doc pm an cdv ct), osl⟩ ∧ fd = PySem.W.fnOf name qual params body scope dV kV doc pm an cdv ct ∧
    PySem.W.codeIn T.K cdv qual = true ∧ FnScope N ps scope
theorem body_run {k : Nat} {f : Addr} {qual : Str} {cdv : Value} {body : List Stmt} {scope : Scope} {c : Cd} {fb : Ss} {A : Around} {outer : List PySem.Env} {s2 : Shared} {H2 : Hp} {xs : List V} {ds : List D} {Q : VK} {E : XK} (hb : SSs c scope body fb)
    (ck : c.k = k) (cT : c.T = T) (cP : c.P = P) (cw : c.w = w) (cm : c.mg = mg) (cb : c.base = base) (nd : c.N.Nodup) (kd : scope.kind = .function) (hg : A.guards = some []) (hT : T.hx = none) (hr : Room (k + 1) A)
    (so : SOk T fz ph st H2) (rd : Reps T.K T.L fz ph ds xs) (h : RP T (fun cls d _ H' => E cls d H') fz ph [] H2 Q (endR (fb (startD c.N ds) st))) :
    ∃ t, PSs (cxOf (L2.CX P w) P w T.K mg base c.N qual scope f cdv A outer s2 H2 E) body t ∧ t { nx := fun _ H' => Q .non H', rt := Q } (start c.N xs) H2 := by
  subst ck cT cP cw cm cb
  refine ⟨_, hb (cxOf (L2.CX c.P c.w) c.P c.w c.T.K c.mg c.base c.N qual scope f cdv A outer s2 H2 E) (fun cls d _ H => E cls d H) ⟨⟨rfl, rfl, rfl, rfl, rfl, rfl, nd, rfl, hg, (hr.deeper _).un, fun _ => ⟨rfl, Room2.of hr⟩, fun _ => hT, fun a cn e => by rw [hT] at e; cases e⟩, fun _ => rfl, rfl, rfl, ?_⟩ (takes_of rfl rfl rfl rfl) (passes_of (K := fun e s'' => L2.CX c.P c.w outer H2 s2 E e s'') rfl), fz, ph, startD c.N ds, st, so, eok_start rd, ?_⟩
  · show Env.blockKind (envOfC qual scope s2.heap.objs.size f cdv) = .function
    unfold Env.blockKind
    have e : (envOfC qual scope s2.heap.objs.size f cdv).scope.kind = .function := kd
    rw [e]
    rfl
  · cases q : fb (startD c.N ds) st with
    | nx ρ st' => rw [q] at h; exact fun f p σ' H' x s' _ => h f p H' .non x s' (by simp only [Rep])
    | rt d st' => rw [q] at h; exact h
    | bk ρ st' => rw [q] at h; exact h.elim
    | ct ρ st' => rw [q] at h; exact h.elim
    | ex c fs ρ st' => rw [q] at h; exact fun f p σ' H' cls d x s' _ z => h f p H' cls d x s' z
    | stuck => rw [q] at h; exact h.elim
end
end DV

namespace DV
open PySem PySem.Spec PyProof.Rows L2
section
variable {T : Pa} {P : Program} {w : World} {mg : Str → Option Value} {base : Heap} {k : Nat} {f : Addr} {name qual : Str} {params : Arguments} {body : List Stmt} {scope : Scope} {N ps : List Str} {fd : FuncData} {c : Cd} {fb : Ss} {sh : Shapes}
/-- what a call of a def is worth -/
def defP (sh : Shapes) (star : Bool) (N : List Str) (fb : Ss) (kws : List Str) : Fn := fun ds st => match bindD sh star kws ds with
  | some xs => endR (fb (startD N xs) st)
  | none => .stuck
theorem bindD_plain {kws : List Str} {ds xs : List D} (h : bindD sh false kws ds = some xs) : ∃ n ix, (kws, n, ix) ∈ sh ∧ n + kws.length = ds.length ∧ xs = ix.map fun i => ds.getD i .non := by
  unfold bindD at h
  cases q : sh.find? fun p => p.1 == kws && (if false && kws.isEmpty then decide (p.2.1 ≤ ds.length) else p.2.1 + kws.length == ds.length) with
  | none => rw [q] at h; cases h
  | some p =>
    obtain ⟨k', n, ix⟩ := p
    rw [q] at h
    have hm := List.mem_of_find?_eq_some q
    have hp := List.find?_some q
    simp only [Bool.false_and, Bool.false_eq_true, if_false, Bool.and_eq_true] at hp
    have e1 : k' = kws := eq_of_beq hp.1
    subst e1
    exact ⟨n, ix, hm, eq_of_beq hp.2, (Option.some.inj h).symm⟩
theorem fnG_def (D : DefOk T f name qual params body scope c.N ps fd) (hb : SSs c scope body fb) (hT : T.hx = none) (ck : c.k = k) (cT : c.T = T) (cP : c.P = P) (cw : c.w = w) (cm : c.mg = mg) (cb : c.base = base) (hs : ∀ p ∈ sh, BindA fd ps p.1 p.2.1 p.2.2) (kws : List Str) :
    FnG T P w mg base (k + 1) f kws (defP sh false c.N fb kws) := by
  intro A outer s H us zs vs ys Q E fz ph st ds hr hg e0 r rz hl so rd h
  unfold defP at h
  cases q : bindD sh false kws ds with
  | none => rw [q] at h; exact h.elim
  | some xs =>
    rw [q] at h
    have h : RP T (fun cls d _ H' => E cls d H') fz ph [] H Q (endR (fb (startD c.N xs) st)) := h
    obtain ⟨n, ix, hm, hn, ex⟩ := bindD_plain q
    have B := hs _ hm
    obtain ⟨oc, dV, kV, doc, pm, cdv, ct, an, od, osl, lk, efd, hcd, S⟩ := D.ex
    have l1 := r.length
    have l2 := rz.length
    have l3 : ds.length = vs.length + ys.length := by rw [rd.length, List.length_append]
    have l4 : us.length = n := by omega
    have l5 : zs.length = kws.length := by omega
    have rv : Vals (vs ++ ys) (us ++ zs) := r.append rz
    have lt : ∀ i ∈ ix, i < (vs ++ ys).length := fun i hi => by
      have := B.lt i hi
      rw [List.length_append]
      simp only at this
      omega
    refine StX.run_bnd lk hcd S hr e0 (G := fun xs' H2 => xs' = (ix.map fun i => (vs ++ ys).getD i .non) ∧ H2 = H) (fun A' Ex Q' hq => ?_) fun s2 H2 xs' ⟨ex', eH⟩ hr' => ?_
    · have eb := B.to us zs l4 l5
      subst efd
      rw [eb]
      refine wpAny_pure (hq s H _ _ e0 Un.refl rfl (fun e s' z => z) (map_vals rv ix lt) (by rw [List.length_map]; exact B.len) ⟨rfl, rfl⟩)
    · subst ex' eH ex
      exact body_run hb ck cT cP cw cm cb S.nd S.kind hg hT hr so (map_reps rd ix fun i hi => by rw [rd.length]; exact lt i hi) h
theorem bindD_star {kws : List Str} {ds xs : List D} (h : bindD sh true kws ds = some xs) : ∃ n ix, (kws, n, ix) ∈ sh ∧ ((kws = [] ∧ n ≤ ds.length ∧ (ds.drop n).length ≤ sizeLine ∧ xs = (ix.map fun i => (ds.take n).getD i .non) ++ [.tup (ds.drop n)]) ∨
    (kws ≠ [] ∧ n + kws.length = ds.length ∧ xs = (ix.map fun i => ds.getD i .non) ++ [.tup []])) := by
  unfold bindD at h
  cases q : sh.find? fun p => p.1 == kws && (if true && kws.isEmpty then decide (p.2.1 ≤ ds.length) else p.2.1 + kws.length == ds.length) with
  | none => rw [q] at h; cases h
  | some p =>
    obtain ⟨k', n, ix⟩ := p
    rw [q] at h
    have hm := List.mem_of_find?_eq_some q
    have hp := List.find?_some q
    simp only [Bool.true_and, Bool.and_eq_true] at hp
    have e1 : k' = kws := eq_of_beq hp.1
    subst e1
    refine ⟨n, ix, hm, ?_⟩
    cases k' with
    | nil =>
      left
      have h1 : n ≤ ds.length := of_decide_eq_true (by simpa using hp.2)
      have h : (if (ds.drop n).length ≤ sizeLine then some ((ix.map fun i => (ds.take (n + 0)).getD i .non) ++ [D.tup (ds.drop n)]) else none) = some xs := h
      by_cases z : (ds.drop n).length ≤ sizeLine
      · rw [if_pos z] at h
        exact ⟨rfl, h1, z, (Option.some.inj h).symm⟩
      · rw [if_neg z] at h; cases h
    | cons y ys =>
      right
      have h1 : n + (y :: ys).length = ds.length := eq_of_beq (by simpa using hp.2)
      have h : (if ([] : List D).length ≤ sizeLine then some ((ix.map fun i => (ds.take (n + (y :: ys).length)).getD i .non) ++ [D.tup []]) else none) = some xs := h
      rw [if_pos (show ([] : List D).length ≤ sizeLine from Nat.zero_le _), h1, List.take_length] at h
      exact ⟨by simp, h1, (Option.some.inj h).symm⟩
/-- one with a star parameter -/
theorem fnG_star {pv : Str} (D : DefOk T f name qual params body scope c.N (ps ++ [pv]) fd) (hb : SSs c scope body fb) (hT : T.hx = none) (ck : c.k = k) (cT : c.T = T) (cP : c.P = P) (cw : c.w = w) (cm : c.mg = mg) (cb : c.base = base) (hs : ∀ p ∈ sh, BindS fd ps pv p.1 p.2.1 p.2.2) (kws : List Str) :
    FnG T P w mg base (k + 1) f kws (defP sh true c.N fb kws) := by
  intro A outer s H us zs vs ys Q E fz ph st ds hr hg e0 r rz hl so rd h
  unfold defP at h
  cases q : bindD sh true kws ds with
  | none => rw [q] at h; exact h.elim
  | some xs =>
    rw [q] at h
    have h : RP T (fun cls d _ H' => E cls d H') fz ph [] H Q (endR (fb (startD c.N xs) st)) := h
    obtain ⟨n, ix, hm, hc⟩ := bindD_star q
    have B := hs _ hm
    obtain ⟨oc, dV, kV, doc, pm, cdv, ct, an, od, osl, lk, efd, hcd, S⟩ := D.ex
    have l1 := r.length
    have l2 := rz.length
    have l3 : ds.length = vs.length + ys.length := by rw [rd.length, List.length_append]
    have l5 : zs.length = kws.length := by omega
    have hn : H s.heap.objs.size = none := e0.hok.fresh (Nat.le_refl _)
    -- the values ahead, the rest
    have key : ∃ (u1 rest : List Value) (v1 vrest : List V) (d1 drest : List DV.D), us = u1 ++ rest ∧ vs = v1 ++ vrest ∧ u1.length = n ∧ v1.length = n ∧ Vals v1 u1 ∧ Vals vrest rest ∧ (kws ≠ [] → rest = []) ∧ rest.length ≤ sizeLine ∧
        Reps T.K T.L fz ph d1 (v1 ++ ys) ∧ Reps T.K T.L fz ph drest vrest ∧ d1.length = n + kws.length ∧ xs = (ix.map fun i => d1.getD i .non) ++ [.tup drest] := by
      rcases hc with ⟨e1, e2, e3, e4⟩ | ⟨e1, e2, e3⟩
      · subst e1
        have ey : ys = [] := by simpa using hl
        subst ey
        have rd' : Reps T.K T.L fz ph ds vs := by simpa using rd
        have lv : ds.length = vs.length := rd'.length
        refine ⟨us.take n, us.drop n, vs.take n, vs.drop n, ds.take n, ds.drop n, by simp, by simp, by rw [List.length_take]; omega, by rw [List.length_take]; omega, r.take n, r.drop n, fun z => absurd rfl z, ?_, by simpa using rd'.take n, rd'.drop n, by rw [List.length_take]; simp; omega, e4⟩
        rw [List.length_drop] at e3 ⊢
        omega
      · have l4 : vs.length = n := by omega
        refine ⟨us, [], vs, [], ds, [], by simp, by simp, by omega, l4, r, .nil, fun _ => rfl, Nat.zero_le _, rd, by simp only [Reps], e2.symm, e3⟩
    obtain ⟨u1, rest, v1, vrest, d1, drest, eu, ev, lu1, lv1, r1, rr, hk, hz, rd1, rdr, ld1, ex⟩ := key
    subst eu ev
    have rv : Vals (v1 ++ ys) (u1 ++ zs) := r1.append rz
    have lt : ∀ i ∈ ix, i < (v1 ++ ys).length := fun i hi => by
      have := B.lt i hi
      rw [List.length_append]
      simp only at this
      omega
    refine StX.run_bnd lk hcd S hr e0 (G := fun xs' H2 => ∃ p, H p = none ∧ xs' = (ix.map fun i => (v1 ++ ys).getD i .non) ++ [V.ref p] ∧ H2 = upd H p (.tup vrest)) (fun A' Ex Q' hq => ?_) fun s2 H2 xs' ⟨p, hp, ex', eH⟩ hr' => ?_
    · have eb := B.to u1 rest zs lu1 l5 hk
      subst efd
      rw [eb]
      refine wpAny_bind (wpAny_newTuple (wpAny_pure ?_) hz)
      have new : ObjOk P w (upd H s.heap.objs.size (.tup vrest)) (s.heap.push ({ cls := .type "tuple", data := .seq rest.toArray } : Obj)) s.heap.objs.size (.tup vrest) := ⟨by rw [rr.length]; exact hz, rest, rr, ⟨_, Heap.get?_push_size _ rfl, rfl, _, rfl⟩⟩
      have un := StX.un_laid (fs := frs outer) (s := s) (o := ({ cls := .type "tuple", data := .seq rest.toArray } : Obj)) (u := .tup vrest) hn
      have hl2 : (ix.map fun i => (u1 ++ zs).getD i Value.none).length = ps.length := by rw [List.length_map]; exact B.len
      have z := hq _ _ ((ix.map fun i => (v1 ++ ys).getD i .non) ++ [V.ref s.heap.objs.size]) ((ix.map fun i => (u1 ++ zs).getD i .none) ++ [Value.ref s.heap.objs.size]) (StX.env0_laid e0 new) un rfl (fun e s' => StX.cxUp outer s H _ _ E e s' un (fun b o q => Heap.get?_push_of_some _ q) rfl)
        ((map_vals rv ix lt).append (.cons rfl .nil)) (by rw [List.length_append, List.length_append, List.length_map, B.len] <;> rfl) ⟨_, hn, rfl, rfl⟩
      rw [List.zip_append hl2.symm] at z
      exact z
    · subst ex' eH ex
      refine body_run hb ck cT cP cw cm cb S.nd S.kind hg hT hr (so.laid (o := .tup vrest) hp (fun ps q => by cases q)) ?_ (h.ext (Ext.laid so hp))
      have m := More.laid so (o := .tup vrest) hp
      exact (Reps.more m _ _ (map_reps rd1 ix fun i hi => by rw [rd1.length]; exact lt i hi)).append (by
        simp only [Reps]
        exact ⟨_, [], rfl, new_tup so hp rdr, rfl⟩)
/-- a class: a new instance, its __init__ -/
def makeP (C : Str) (g : Fn) : Fn := fun ds st => (g (.ref st.length :: ds) (st ++ [.ins C []])).bind fun d st' => match d with
  | .non => frzR (.ref st.length) st'
  | _ => .stuck
theorem fnG_make {C : Str} {g : Fn} {kws : List Str} (M : Mk T.K (He.ga T.K C) f) (F : FnG T P w mg base k f kws g) : FnG T P w mg base (k + 1) (He.ga T.K C) kws (makeP C g) := by
  intro A outer s H us zs vs ys Q E fz ph st ds hr hg e0 r rz hl so rd h
  have h : RP T (fun cls d _ H' => E cls d H') fz ph [] H Q ((g (.ref st.length :: ds) (st ++ [MO.ins C []])).bind fun d st' => match d with
    | .non => frzR (.ref st.length) st'
    | _ => .stuck) := h
  have n1 : H s.heap.objs.size = none := e0.hok.fresh (Nat.le_refl _)
  have n2 : H (s.heap.objs.size + 1) = none := e0.hok.fresh (Nat.le_succ _)
  have ne : s.heap.objs.size ≠ s.heap.objs.size + 1 := Nat.ne_of_lt (Nat.lt_succ_self _)
  have eA : (s.heap.push PySem.W.emptyDict).get? s.heap.objs.size = some PySem.W.emptyDict := Heap.get?_push_size s.heap rfl
  have E1 := StX.env0_laid (o := PySem.W.emptyDict) (u := .own (s.heap.objs.size + 1)) e0 ⟨_, eA⟩
  have u1 := StX.un_laid (fs := frs outer) (s := s) (o := PySem.W.emptyDict) (u := .own (s.heap.objs.size + 1)) n1
  have sz : (s.heap.push PySem.W.emptyDict).objs.size = s.heap.objs.size + 1 := Heap.size_push _ _
  have n2' : upd H s.heap.objs.size (.own (s.heap.objs.size + 1)) (s.heap.push PySem.W.emptyDict).objs.size = none := by
    rw [sz, upd_ne (Ne.symm ne)]
    exact n2
  have eB : ((s.heap.push PySem.W.emptyDict).push (PySem.W.instObj (He.ga T.K C) s.heap.objs.size)).get? (s.heap.push PySem.W.emptyDict).objs.size = some (PySem.W.instObj (He.ga T.K C) s.heap.objs.size) := Heap.get?_push_size _ rfl
  have eC : (s.heap.push PySem.W.emptyDict).Ns s.heap.objs.size (fun _ => none) := ⟨PySem.W.emptyDict, #[], _, eA, rfl, (fun e he => absurd he (by simp)), fun _ => rfl⟩
  have new2 : ObjOk P w (upd (upd H s.heap.objs.size (.own (s.heap.objs.size + 1))) (s.heap.push PySem.W.emptyDict).objs.size (.ins (He.ga T.K C) s.heap.objs.size [])) ((s.heap.push PySem.W.emptyDict).push (PySem.W.instObj (He.ga T.K C) s.heap.objs.size))
      (s.heap.push PySem.W.emptyDict).objs.size (.ins (He.ga T.K C) s.heap.objs.size []) := by
    rw [sz]
    rw [sz] at eB
    exact ⟨by rw [upd_ne ne, upd_same], Nat.zero_le _, ne, eB, fun _ => none, (Heap.Ns1.of_empty eC).at fun o q => Heap.get?_push_of_some _ q, fun _ => True.intro, fun y hy => absurd rfl hy⟩
  have E2 := StX.env0_laid (o := PySem.W.instObj (He.ga T.K C) s.heap.objs.size) (u := .ins (He.ga T.K C) s.heap.objs.size []) E1 new2
  have u2 := u1.trans (StX.un_laid (fs := frs outer) (s := { s with heap := s.heap.push PySem.W.emptyDict }) (o := PySem.W.instObj (He.ga T.K C) s.heap.objs.size) (u := .ins (He.ga T.K C) s.heap.objs.size []) n2')
  rw [show ({ s with heap := s.heap.push PySem.W.emptyDict } : Shared).heap.objs.size = s.heap.objs.size + 1 from sz] at E2 u2
  -- the deep side
  have f1 : fz s.heap.objs.size = none := by
    cases q : fz s.heap.objs.size with
    | none => rfl
    | some u => rw [so.sub _ _ q] at n1; cases n1
  have p1 : s.heap.objs.size ∉ ph := fun hm => by
    obtain ⟨u, hu⟩ := so.at_some hm
    rw [hu] at n1; cases n1
  have so1 : SOk T fz ph st (upd H s.heap.objs.size (.own (s.heap.objs.size + 1))) := so.aside f1 p1 (.inl n1)
  have x1 : Ext fz ph H fz ph (upd H s.heap.objs.size (.own (s.heap.objs.size + 1))) := ⟨.refl _ _, fun a u h _ _ => by rw [upd_ne (ne_of_none h n1)]; exact h, fun a h => by
    by_cases e : a = s.heap.objs.size
    · subst e; rw [upd_same]; simp
    · rw [upd_ne e]; exact h, fun a h => .inl h, fun a h => .inl h⟩
  have n2s : upd H s.heap.objs.size (.own (s.heap.objs.size + 1)) (s.heap.objs.size + 1) = none := by
    rw [upd_ne (Ne.symm ne)]
    exact n2
  have so2 := so1.alloc (m := .ins C []) (o := .ins (He.ga T.K C) s.heap.objs.size []) n2s ⟨_, [], upd_same, by simp only [RepF]⟩
  have x2 := x1.trans (Ext.alloc so1 (o := .ins (He.ga T.K C) s.heap.objs.size []) n2s)
  have hph : (ph ++ [s.heap.objs.size + 1])[st.length]? = some (s.heap.objs.size + 1) := by rw [so.len, List.getElem?_append_right (Nat.le_refl _)]; simp
  have rd2 : Reps T.K T.L fz (ph ++ [s.heap.objs.size + 1]) (.ref st.length :: ds) ((.ref (s.heap.objs.size + 1) :: vs) ++ ys) := by
    simp only [List.cons_append, Reps]
    exact ⟨_, _, rfl, by simp only [Rep]; exact ⟨_, rfl, hph⟩, Reps.more x2.more ds _ rd⟩
  have go := F (A.under (.builtin "type.__call__" ⟨.ref (He.ga T.K C) :: us, kws.zip zs⟩)) outer _ _ (.ref (s.heap.objs.size + 1) :: us) zs (.ref (s.heap.objs.size + 1) :: vs) ys (fun v H2 => v = .non ∧ Q (.ref (s.heap.objs.size + 1)) H2) E fz (ph ++ [s.heap.objs.size + 1]) (st ++ [.ins C []]) (.ref st.length :: ds)
    (hr.make _ us (kws.zip zs)) (by first | exact hg | (rw [← hg]; simp [Around.under, Code.weight, Code.isCreation, Code.isGuard, Code.isCaller, Code.frames, Code.isFrame, guardIds])) (E2.make _ us (kws.zip zs)) (.cons rfl r) rz hl so2 rd2 ?_
  · refine make_map (f := f) (e0.mod.kin.keeps fun b o e => (e0.bs b o e).1) M.makes M.init (beq_iff_eq.mp M.fn) (codeAny_mono go fun r s' hq => ?_)
    cases r with
    | error e =>
      have hq : L2.CX P w outer _ _ E e s' := hq
      refine StX.cxUp (P := P) (w := w) outer s H _ _ E e s' ?_ ?_ ?_ hq
      · exact u2
      · exact fun b o q => Heap.get?_push_of_some _ (Heap.get?_push_of_some _ q)
      · rfl
    | ok fl =>
      cases fl with
      | ret u =>
        have hq : CE outer P w _ _ _ u s' := hq
        obtain ⟨v, H', os, bare, un, hok, rv, ev, q⟩ := hq
        subst ev
        exact ⟨rv, .ref (s.heap.objs.size + 1), H', os, bare, u2.trans un, hok, rfl, q⟩
      | next => exact False.elim hq
      | brk => exact False.elim hq
      | cont => exact False.elim hq
  · refine RP.step (α := DV.D) (h.ext x2) fun d st' fz3 ph3 H3 u x3 s3 r3 q3 => ?_
    cases d with
    | non =>
      refine ⟨rep_non r3, ?_⟩
      have q3 : RP T (fun cls d _ H' => E cls d H') fz3 ph3 [] H3 Q (frzR (.ref st.length) st') := q3
      have hph3 : ph3[st.length]? = some (s.heap.objs.size + 1) := by
        obtain ⟨t, et⟩ := x3.more.ph
        rw [et, List.getElem?_append_left (List.getElem?_eq_some_iff.mp hph).1]
        exact hph
      have rref : Rep T.K T.L fz3 ph3 (.ref st.length) (.ref (s.heap.objs.size + 1)) := by
        simp only [Rep]
        exact ⟨_, rfl, hph3⟩
      cases q : frzR (.ref st.length) st' with
      | ok d' st2 =>
        rw [q] at q3
        obtain ⟨fz4, x4, s4, r4⟩ := frz_ok s3 rref q
        exact q3 fz4 ph3 H3 _ x4 s4 r4
      | ex c fs st2 => unfold frzR at q; repeat (first | (split at q) | (cases q))
      | stuck => rw [q] at q3; exact q3.elim
    | _ => exact q3.elim
end
end DV

namespace DV
open PySem PySem.Spec PyProof.Rows L2

/-! ### an operator of an own class -/
/-- the class C has the operator as the def number n -/
structure OpOk (c : Cd) (op : Operator) (C : Str) (n : Nat) : Prop where
  ex : ∃ f, Cls c.T.K (He.ga c.T.K C) ∧ PySem.W.selfFirst c.T.K (He.ga c.T.K C) = true ∧ PySem.W.findIn c.T.K (.ref (He.ga c.T.K C)) (PySem.dunder op.info.2) = some (some (.ref f)) ∧ PySem.W.isFn c.T.K (.ref f) = true ∧ FnG c.T c.P c.w c.mg c.base c.k f [] (c.G n [])
def opN (tab : List (Str × Nat)) (d e : D) (st : Store) : Option Nat := match d.insOf st, e.insOf st with
  | some (c, _), some (c', _) => if c = c' then tab.lookup c else none
  | _, _ => none
/-- what an operator may give back: no NotImplemented -/
def shOp (G : Gam) (tab : List (Str × Nat)) (fa fb : Sh) : Sh := fun ρ st => (fa ρ st).bind fun d st => (fb ρ st).bind fun e st => match opN tab d e st with
  | some n => G n [] [d, e] st
  | none => .stuck
theorem own_binop {prog : Program} {w : World} {A : Around} {E : Value → Shared → Prop} {s : Shared} {K : PySem.W.Frag} {x C f : Addr} {ox : Obj} {od : Option Obj} {op : Operator} {b : Value} {Q : Value → Shared → Prop} (X : K.In s.heap) (I : PySem.W.InstAt s.heap x ox C od)
    (hb : PySem.W.Looks (model prog w) s.heap (typeOf b) (.ref C)) (hc : PySem.W.selfFirst K C = true) (hs : PySem.W.findIn K (.ref C) (PySem.dunder op.info.2) = some (some (.ref f))) (hf : PySem.W.isFn K (.ref f) = true)
    (h : wpAny (model prog w) A (call (.ref f) [.ref x, b]) (PySem.W.CmpBack Q) E s) : wpAny (model prog w) A (binaryOp op (.ref x) b) Q E s := by
  obtain ⟨cd, hcd, hm⟩ := PySem.W.any_some hc
  obtain ⟨rest, hm⟩ : ∃ rest, cd.mro = .ref C :: rest := by
    cases q : cd.mro with
    | nil => rw [q] at hm; cases hm
    | cons a r => rw [q] at hm; exact ⟨r, by rw [List.head?_cons] at hm; cases (beq_iff_eq.mp hm); rfl⟩
  have fills : PySem.W.Looks (model prog w) s.heap (fillsNumberSlot (.ref C) op.info.2) true := PySem.W.fills_K X hcd hm hs
  have special : wpAny (model prog w) A (callSpecial? (.ref x) (PySem.dunder op.info.2) [b]) (fun r s' => ∃ v, r = some v ∧ PySem.W.CmpBack Q v s') E s :=
    PySem.W.special_fn X I hs (beq_iff_eq.mp hf) (wpAny_mono h (fun v s' hv => ⟨v, rfl, hv⟩) fun _ _ e => e)
  unfold binaryOp
  refine wpAny_holding (wpAny_bind ?_)
  unfold binaryOp1
  refine wpAny_bind (I.type.here (wpAny_bind (hb.here (wpAny_bind (fills.here ?_)))))
  simp only [beq_self_eq_true, if_true]
  refine wpAny_bind (wpAny_pure ?_)
  simp only [Bool.and_false, Bool.false_eq_true, if_false, Bool.false_and]
  refine wpAny_bind (wpAny_pure ?_)
  simp only [Bool.false_eq_true, if_false]
  refine wpAny_bind (m := tryMethod (.ref x) _ b) ?_
  unfold tryMethod
  refine wpAny_bind (wpAny_mono special (fun r s' ⟨v, er, hv⟩ => ?_) fun _ _ e => e)
  subst er
  cases v <;> first | exact hv.elim | exact wpAny_pure (wpAny_pure (wpAny_pure hv))
section
variable {c : Cd} {cm : Bool} {sc : Scope} {a b o : PySem.Expr} {es : List PySem.Expr} {fa fb fo : Sh} {fs fks : List Sh} {pos p2 apos : Pos}
theorem back_ok {X : Cx} {pins : List (Addr × Obj)} {σ : L2.St} {Q : VK} {u : Value} {s' : Shared} (h : EP X pins σ Q u s') : PySem.W.CmpBack (EP X pins σ Q) u s' := by
  obtain ⟨v, H', I, r, q⟩ := id h
  cases v <;> first
    | (cases r; exact h)
    | (obtain ⟨t, rfl⟩ := r; exact h)
theorem se_op {op : Operator} {tab : List (Str × Nat)} (g : ∀ C n, tab.lookup C = some n → OpOk c op C n) (ha : SE c true sc a fa) (hb : SE c true sc b fb) : SE c true sc (.BinOp a op b pos) (shOp c.G tab fa fb) := fun X W hX tk => ⟨fun pins s σ H Q I h => by
  have h2 : tE c.T W fa σ H fun x H1 => tE c.T W fb σ H1 fun y H2 => ∃ fz ph st d e n, SOk c.T fz ph st H2 ∧ Rep c.T.K c.T.L fz ph d x ∧ Rep c.T.K c.T.L fz ph e y ∧ opN tab d e st = some n ∧ RP c.T W fz ph σ H2 Q (c.G n [] [d, e] st) :=
    tE.step (k := fun d ρ st => (fb ρ st).bind fun e st => match opN tab d e st with
      | some n => c.G n [] [d, e] st
      | none => .stuck) h fun d ρ st fz ph H1 x s e rx q => ⟨fz, ph, ρ, st, s, e, RP.step (α := D) q fun d' st' f p' H2 y ex s' ry q' => by
        cases q1 : opN tab d d' st' with
        | none => rw [q1] at q'; exact q'.elim
        | some n => rw [q1] at q'; exact ⟨f, p', st', d, d', n, s', Rep.more ex.more d x rx, ry, q1, q'⟩⟩
  refine wpAny_BinOp (binT (ha X W hX tk) (hb X W hX tk) I h2 fun v u s2 x y H2 I2 rx ry ⟨fz, ph, st, d, e, n, so, r1, r2, hn, q⟩ => ?_)
  unfold opN at hn
  cases q1 : d.insOf st with
  | none => rw [q1] at hn; cases hn
  | some cf =>
    obtain ⟨C, ff⟩ := cf
    cases q2 : e.insOf st with
    | none => rw [q1, q2] at hn; cases hn
    | some cf' =>
      obtain ⟨C', ff'⟩ := cf'
      rw [q1, q2] at hn
      have hn : (if C = C' then tab.lookup C else none) = some n := hn
      by_cases z : C = C'
      · subst z
        rw [if_pos rfl] at hn
        obtain ⟨f, hc, hsf, hfi, hfn, F⟩ := (g C n hn).ex
        obtain ⟨a1, dx1, vs1, e1, h1, _⟩ := insOf_ok so r1 q1
        obtain ⟨a2, dx2, vs2, e2, h2, _⟩ := insOf_ok so r2 q2
        subst e1 e2
        obtain rfl : v = Value.ref a1 := rx
        obtain rfl : u = Value.ref a2 := ry
        obtain ⟨mA, O, _⟩ := ins_get I2.hok h1
        obtain ⟨od, J, _⟩ := O.look
        obtain ⟨mB, OB, _⟩ := ins_get I2.hok h2
        obtain ⟨od2, J2, _⟩ := OB.look
        refine own_binop I2.kIn J J2.type (by rw [hX.K]; exact hsf) (by rw [hX.K]; exact hfi) (by rw [hX.K]; exact hfn) ?_
        exact thn (run_G (us := [.ref a1, .ref a2]) (zs := []) (vs := [.ref a1, .ref a2]) (ys := []) F hX tk I2 (.cons rfl (.cons rfl .nil)) .nil rfl so (by simp only [List.append_nil, Reps]; exact ⟨_, _, rfl, r1, _, _, rfl, r2, rfl⟩) q) fun u s' hq => back_ok hq
      · rw [if_neg z] at hn; cases hn⟩
/-! ### f( *xs) -/
def seqD (d : D) (st : Store) : Option (List D) := match d with
  | .tup xs => some xs
  | .lst xs => some xs
  | .ref l => (match st[l]? with
    | some (.lst xs) => some xs
    | _ => none)
  | _ => none
theorem seqD_ok {T : Pa} {fz H : Hp} {ph : List Addr} {st : Store} {d : D} {u : V} {xs : List D} (s : SOk T fz ph st H) (r : Rep T.K T.L fz ph d u) (e : seqD d st = some xs) : ∃ a vs, u = .ref a ∧ (SqT T.K H a vs ∨ SqL T.K H a vs) ∧ Reps T.K T.L fz ph xs vs := by
  cases d with
  | tup ys =>
    cases (Option.some.inj e)
    obtain ⟨a, vs, e1, ha, ra⟩ := rep_tup r
    exact ⟨a, vs, e1, .inl (s.sqT ha), ra⟩
  | lst ys =>
    cases (Option.some.inj e)
    obtain ⟨a, vs, e1, ha, ra⟩ := rep_lst r
    exact ⟨a, vs, e1, .inr (.inl (s.rd ha)), ra⟩
  | ref l =>
    obtain ⟨a, e1, hp⟩ := rep_ref r
    have e : (match st[l]? with
      | some (.lst xs) => some xs
      | _ => none) = some xs := e
    cases q : st[l]? with
    | none => rw [q] at e; cases e
    | some o =>
      rw [q] at e
      cases o with
      | lst ys =>
        cases (Option.some.inj e)
        obtain ⟨vs, hv, rv⟩ := s.mem l _ a q hp
        exact ⟨a, vs, e1, .inr (.inl (.inl hv)), rv⟩
      | _ => cases e
  | _ => cases e
def shCallS (G : Gam) (n : Nat) (f : Sh) : Sh := fun ρ st => (f ρ st).bind fun d st => match seqD d st with
  | some xs => G n [] xs st
  | none => .stuck
theorem se_callS {x : Str} {n : Nat} {pp sp : Pos} (g : GOk c x n) (hg : glB sc x = true) (ha : SE c true sc a fa) (hd : (x == ("__debug__" : Str)) = false) :
    SE c true sc (.Call (.Name x pp) [.Starred a sp] [] pos) (shCallS c.G n fa) := fun X W hX tk => ⟨fun pins s σ H Q I h => by
  have h2 : tE c.T W fa σ H fun x H1 => ∃ fz ph st d xs, SOk c.T fz ph st H1 ∧ Rep c.T.K c.T.L fz ph d x ∧ seqD d st = some xs ∧ RP c.T W fz ph σ H1 Q (c.G n [] xs st) :=
    tE.step (k := fun d _ st => match seqD d st with
      | some xs => c.G n [] xs st
      | none => .stuck) h fun d ρ st fz ph H1 x s e rx q => by
        cases q1 : seqD d st with
        | none => rw [q1] at q; exact q.elim
        | some xs => rw [q1] at q; exact ⟨fz, ph, st, d, xs, s, rx, q1, q⟩
  refine wpAny_Call_Name_kw (ld_glob I (glB_ok hX hg) (by rw [hX.mg]; exact g.at_) ?_ hd)
  refine PySem.W.callWith_S (h₀ := X.base) (K := X.K) I.ok.mod.kin (by rw [hX.K]; exact g.kp) (thn ((ha X W hX tk).run pins s σ H _ I h2) fun v s1 ⟨y, H1, I1, ry, fz, ph, st, d, xs, so, rd, hs, q⟩ => ?_) rfl
  obtain ⟨ad, vs, e1, hsq, rv⟩ := seqD_ok so rd hs
  subst e1
  obtain rfl : v = Value.ref ad := ry
  rw [← hX.K] at hsq
  refine StX.star_any I1 hsq fun us s2 I2 rus => ⟨I2.kIn, ?_⟩
  exact run_G (us := us) (zs := []) (vs := vs) (ys := []) (g.ok []) hX tk I2 rus .nil rfl so (by rw [List.append_nil]; exact rv) q⟩
/-! ### xs.index(v) -/
def idxP (d x : D) (st : Store) : R D := match d with
  | .lst xs => if (flatD x && xs.all flatD) = true then okO ((xs.findIdx? fun z => eqF z x).map fun j => .int (j : Nat)) st else .stuck
  | _ => .stuck
def shIdx (fo fa : Sh) : Sh := fun ρ st => (fo ρ st).bind fun d st => match d with
  | .lst xs => (fa ρ st).bind fun x st => idxP (.lst xs) x st
  | _ => .stuck
theorem reps_getV {T : Pa} {fz : Hp} {ph : List Addr} {m : Nat} {z' : V} : ∀ {ds : List D} {us : List V}, Reps T.K T.L fz ph ds us → us[m]? = some z' → ∃ d, ds[m]? = some d ∧ Rep T.K T.L fz ph d z' := fun {ds us} r h => by
  have hm : m < us.length := (List.getElem?_eq_some_iff.mp h).1
  have hl := r.length
  have e : ds[m]? = some ds[m] := List.getElem?_eq_getElem (by omega)
  obtain ⟨u, hu, ru⟩ := r.get e
  rw [h] at hu
  cases hu
  exact ⟨_, e, ru⟩
theorem se_index {cpos : Pos} (ho : SE c cm sc o fo) (ha : SE c cm sc a fa) (hn : notStar a = true) (hs : notSuper o = true) (hline : (apos.endLine == cpos.line) = true) : SE c cm sc (.Call (.Attribute o "index" apos) [a] [] cpos) (shIdx fo fa) := fun X W hX tk =>
  peI (pe_bm PySem.F.plainAttrs_list PySem.F.slot_list_index PySem.F.type_list_index mt_index (ho X W hX tk) (pa_cons (ha X W hX tk) pa_nil (star_each hn)) (base_plain hs) (by rw [star_each hn]; rfl) hline (star_each hn) rfl) fun σ H Q h =>
    tE.step (k := fun d ρ st => match d with
      | .lst xs => (fa ρ st).bind fun x st => idxP (.lst xs) x st
      | _ => .stuck) h fun d ρ st fz ph H1 u s e r q => by
        cases d with
        | lst xs =>
          obtain ⟨ad, vs, e1, hv, rv⟩ := rep_lst r
          have q : RP c.T W fz ph σ H1 Q ((fa ρ st).bind fun x st => idxP (.lst xs) x st) := q
          rw [e1, hX.K]
          refine ⟨.inl ⟨rfl, vs, .inl (s.rd hv)⟩, fz, ph, ρ, st, s, e, RP.step (α := D) q fun x st2 fz2 ph2 H2 w x2 s2 r2 q2 => ?_⟩
          have q2 : RP c.T W fz2 ph2 σ H2 Q (if (flatD x && xs.all flatD) = true then okO ((xs.findIdx? fun z => eqF z x).map fun j => .int (j : Nat)) st2 else .stuck) := q2
          by_cases z : (flatD x && xs.all flatD) = true
          · rw [if_pos z] at q2
            obtain ⟨z1, z2⟩ := Bool.and_eq_true_iff.mp z
            obtain ⟨dj, e2, q2⟩ := okO_ok q2
            obtain ⟨j, e3, e4⟩ := Option.map_eq_some_iff.mp e2
            subst e4
            have rv2 := Reps.more x2.more xs vs rv
            obtain ⟨hj, hjt, hjn⟩ := List.findIdx?_eq_some_iff_getElem.mp e3
            obtain ⟨uj, hu, ru⟩ := rv2.get (List.getElem?_eq_getElem hj)
            refine ⟨ad, vs, w, j, uj, rfl, rfl, .inl (s2.rd (rd_more x2.more.fz hv)), flatD_ok r2 z1, flats_ok rv2 z2, hu, ?_, fun m z' hm hz => ?_, int_ok q2 s2⟩
            · rw [eqF_ok ru r2 (List.all_eq_true.mp z2 _ (List.getElem_mem hj)) z1]
              exact hjt
            · obtain ⟨dm, hd, rdm⟩ := reps_getV rv2 hz
              have hml : m < xs.length := by omega
              rw [List.getElem?_eq_getElem hml] at hd
              cases hd
              rw [eqF_ok rdm r2 (List.all_eq_true.mp z2 _ (List.getElem_mem hml)) z1]
              have := hjn m hm
              simpa using this
          · rw [if_neg z] at q2; exact q2.elim
        | _ => exact q.elim
end
end DV

namespace PySem
open Sem (wp)
theorem dv_meets_enum {v : Value} {o : Obj} {H : Heap → Prop} (B : Begins v o H) :
    Meets (Builtin.«enumerate.__new__» ⟨[.type "enumerate", v], []⟩) (fun _ R s => H s.heap ∧
      R (.ok (.ret (.ref (s.heap.push o).objs.size))) { s with heap := (s.heap.push o).push { cls := .type "enumerate", data := .fields #[.none, .bool false, .ref s.heap.objs.size, rawInt 0, .none, .none] } }) :=
  .of_wp fun prog w A R s h => by
    obtain ⟨hp, g, d, tk, os⟩ := s
    obtain ⟨h1, h⟩ := h
    have hsub := sub_enumerate
    have q1 : ∀ {A' : Around} {E : Value → Shared → Prop} {Q : Value → Shared → Prop}, Q (.ref hp.objs.size) ⟨hp.push o, g, d, tk, os⟩ → wpAny (model prog w) A' (pyIter v) Q E ⟨hp, g, d, tk, os⟩ :=
      fun q => B.iter prog w _ _ ⟨hp, g, d, tk, os⟩ _ h1 q
    wp_walk using q1
    refine wpAny_stack_any fun st => wpAny_pure ?_
    split
    · rename_i c _ _ _ _ _
      cases (c == Value.type "enumerate")
      · wp_walk using q1
        exact ⟨_, rfl, h⟩
      · wp_walk using q1
        exact ⟨_, rfl, h⟩
    · wp_walk using q1
      exact ⟨_, rfl, h⟩
section
variable {prog : Program} {w : World} {A : Around} {E : Value → Shared → Prop} {s : Shared}
/-- enumerate(v) -/
theorem dv_call_enum {v : Value} {o : Obj} {H : Heap → Prop} {Q : Value → Shared → Prop} (B : Begins v o H) (h1 : H s.heap)
    (h : ∀ h', IsEnum h' (s.heap.objs.size + 1) s.heap.objs.size 0 .none → h'.get? s.heap.objs.size = some o → (∀ b o, s.heap.get? b = some o → h'.get? b = some o) → Q (.ref (s.heap.objs.size + 1)) { s with heap := h' }) :
    wpAny (model prog w) A (call (.type "enumerate") [v]) Q E s := by
  refine callType_new F.called_enumerate (by decide) (F.typeCall_enumerate_1 _) (F.newCall_enumerate_1 _) (fun obj => F.args_object_init_2 obj _) F.entry_enumerate_new (dv_meets_enum B) ⟨h1, ?_⟩
  have hz : (s.heap.push o).objs.size = s.heap.objs.size + 1 := Heap.size_push ..
  show _ ∧ _
  rw [hz]
  have he : IsEnum ((s.heap.push o).push { cls := .type "enumerate", data := .fields #[.none, .bool false, .ref s.heap.objs.size, rawInt 0, .none, .none] }) (s.heap.objs.size + 1) s.heap.objs.size 0 .none := by
    have := Heap.get?_push_size (s.heap.push o) (o := { cls := .type "enumerate", data := .fields #[.none, .bool false, .ref s.heap.objs.size, rawInt 0, .none, .none] }) rfl
    rw [hz] at this
    exact this
  exact ⟨⟨_, he, rfl⟩, h _ he (Heap.get?_push_of_some _ (Heap.get?_push_size _ B.free)) fun b o x => Heap.get?_push_of_some _ (Heap.get?_push_of_some _ x)⟩
end
end PySem
namespace DV
open PySem PySem.Spec PyProof.Rows L2

/-! ### enumerate(tuple) -/
def Iet (K : PySem.W.Frag) (a : Addr) : It :=
  ⟨fun i H => ∃ (xs : List V) (x : V), SqT K H a xs ∧ xs[i]? = some x, fun i H v H' => ∃ T x, v = .ref T ∧ H T = none ∧ H' = upd H T (.tup [.int (i : Nat), x]) ∧ ∀ xs, SqT K H a xs → xs[i]? = some x, fun i H => ∃ xs : List V, SqT K H a xs ∧ xs.length ≤ i⟩
theorem turn_enumT {P : Program} {w : World} {K : PySem.W.Frag} {elts : List PySem.Expr} {kk : Nat} {tpos : Pos} (a e it : Addr) :
    Turn P w K (.Tuple elts kk tpos) (Iet K a) [e, it] e (fun i h => (∃ old, IsEnum h e it ((i : Nat) : Int) old) ∧ h.IsTupleIter it a i ∧ e ≠ it) where
  mem := by simp
  obj := fun i h st b hb => by
    obtain ⟨⟨old, he⟩, ⟨o, ho, hc, hd⟩, _⟩ := st
    have e' : b = e ∨ b = it := by simpa using hb
    rcases e' with z | z
    · rw [z]; exact ⟨_, he, fun v q => nomatch q⟩
    · rw [z]; exact ⟨o, ho, fun v q => by rw [hd] at q; cases q⟩
  keep := fun i h h' st k => let ⟨⟨old, he⟩, hi, hne⟩ := st; ⟨⟨old, k e (by simp) _ he⟩, hi.at fun o q => k it (by simp) o q, hne⟩
  item := by
    intro X hP hw hK hc i pins s σ H E I hf st hg
    subst hP hw hK
    obtain ⟨⟨old, he⟩, hit, hne⟩ := st
    obtain ⟨xs, x, hq, hx⟩ := hg
    obtain ⟨its, rv, p, hz⟩ := I.tuple hq
    obtain ⟨u, hu, ru⟩ := rv.get hx
    have hT : s.heap.IsTuple a its.toArray := p
    have hel : e < s.heap.objs.size := Heap.lt_size he
    have hil : it < s.heap.objs.size := by obtain ⟨_, q, _⟩ := hit; exact Heap.lt_size q
    have hai : a ≠ it := fun z => by
      obtain ⟨o1, q1, c1, _⟩ := hit
      obtain ⟨o2, q2, c2, _⟩ := hT
      rw [z] at q2
      rw [q1] at q2
      cases q2
      rw [c1] at c2
      exact absurd (Value.type.inj c2) (by decide)
    have hae : e ≠ a := fun z => by
      obtain ⟨o2, q2, c2, _⟩ := hT
      rw [← z, he] at q2
      cases q2
      exact absurd (Value.type.inj c2) (by decide)
    have D := Draws.tuple (prog := X.prog) (w := X.w) (A := X.A.in1) (I.ok.hd hc) it a hai its.toArray
    have hlt : i < its.toArray.size := by
      have := (List.getElem?_eq_some_iff.mp hu).1
      simpa using this
    refine wpAny_pyNext_enum_itemD D he ⟨hit, hT⟩ hlt hne (by simp [hne, hae]) fun x' h' tk hP ho hst' hT' hsz hk => ?_
    have ex : x' = u := by
      have hP : its.toArray[i]? = some x' := hP
      have hu' : its.toArray[i]? = some u := by simpa using hu
      rw [hP] at hu'
      exact Option.some.inj hu'
    subst ex
    refine ⟨_, rfl, wpAny_letOwnedTupleGo_enum (s := { s with heap := h', toks := tk + 1 }) ho fun h'' he' sb => ?_⟩
    have hT2 : h''.get? s.heap.objs.size = some { cls := .type "tuple", data := .seq #[.int i tk, x'] } := (sb.2 _ (Nat.ne_of_gt hel)).trans hT'
    have new : ObjOk X.prog X.w (upd H s.heap.objs.size (.tup [.int (i : Nat), x])) h'' s.heap.objs.size (.tup [.int (i : Nat), x]) :=
      ⟨by show 2 ≤ sizeLine; decide, [.int i tk, x'], .cons ⟨_, rfl⟩ (.cons ru .nil), ⟨_, hT2, rfl, _, rfl⟩⟩
    have I1 : Inv X pins σ (upd H s.heap.objs.size (.tup [.int (i : Nat), x])) { s with heap := h'', toks := tk + 1 } :=
      I.turnedNew (ch := [e, it]) (fun b ob hb q => (sb.2 b (fun z => hb (by simp [z]))).trans (hk b ob (fun z => hb (by simp [z])) (fun z => hb (by simp [z])) q)) hf (Nat.le_refl _) new
    refine ⟨.ref s.heap.objs.size, _, I1, rfl, ⟨_, x, rfl, I.hok.fresh (Nat.le_refl _), rfl, fun ys hy => by rw [I.tuple_inj hy hq]; exact hx⟩, ⟨⟨x', ?_⟩, hst'.1.at fun o q => (sb.2 it (Ne.symm hne)).trans q, hne⟩, fun b hb => ?_⟩
    · have e1 : ((i + 1 : Nat) : Int) = (i : Int) + 1 := by omega
      rw [e1]; exact he'
    · have hb' : b < s.heap.objs.size := by
        have e' : b = e ∨ b = it := by simpa using hb
        rcases e' with z | z
        · rw [z]; exact hel
        · rw [z]; exact hil
      rw [upd_ne (Nat.ne_of_lt hb')]
      exact (hf b hb).1
  done := by
    intro X hP hw hK hc i pins s σ H E I hf st hg
    subst hP hw hK
    obtain ⟨⟨old, he⟩, hit, hne⟩ := st
    obtain ⟨xs, hq, hx⟩ := hg
    obtain ⟨its, rv, p, hz⟩ := I.tuple hq
    have hT : s.heap.IsTuple a its.toArray := p
    obtain ⟨f0, f1, f2, f3, f4, f5⟩ := hf it (by simp)
    have hl := rv.length
    have hai : a ≠ it := fun z => by
      obtain ⟨o1, q1, c1, _⟩ := hit
      obtain ⟨o2, q2, c2, _⟩ := hT
      rw [z] at q2
      rw [q1] at q2
      cases q2
      rw [c1] at c2
      exact absurd (Value.type.inj c2) (by decide)
    have hTy : s.TypeIs (.ref e) "enumerate" := ⟨_, he, rfl⟩
    unfold pyNext
    refine wpAny_bind (wpAny_attempt (wpAny_callSpecial?_slot (name := Str.ofString "__next__") hTy F.slot_enumerate_next (wpAny_call_entry F.slot_enumerate_next hTy F.entry_enumerate_next ?_ (F.args_enumerate_next_1 _))))
    show wpAny _ _ (field (.ref e) 2 >>= _) _ _ _
    refine wpAny_bind (wpAny_field he rfl (x := .ref it) rfl ?_)
    refine wpAny_bind (wpAny_nextOf_tuple_end (I.ok.hd hc) hit hT (by simp; omega) fun h' x he' hx' => ?_)
    obtain ⟨o, ho, hc'⟩ := hx'
    refine wpAny_bind (wpAny_isInstance (T := "StopIteration") (b := true) ⟨o, ho, hc'⟩ isSubtype_stop ?_)
    exact wpAny_pure ⟨rfl, I.turned (t' := s.toks) (fun b o hb q => he' b o hb q) f0 f1 f3 f4 f5⟩
  self := fun A i s Q E st h => let ⟨⟨_, he⟩, _⟩ := st; wpAny_pyIter_enum he h
def iEnumT (K : PySem.W.Frag) (ta : TA) : TI := fun σ H R => ta σ H fun vs H1 => ∃ a xs, vs = [.ref a] ∧ SqT K H1 a xs ∧ R (Iet K a) H1
theorem pi_enumT {X : Cx} {e : PySem.Expr} {ta : TA} {p pos tpos : Pos} {elts : List PySem.Expr} {kk : Nat} (hg : Gl X "enumerate") (hm : X.mg "enumerate" = none) (ha : PA X [e] ta) (hs : starEach [e] X.env = [(false, eval e X.env)]) :
    PI X (.Tuple elts kk tpos) (.Call (.Name "enumerate" p) [e] [] pos) (iEnumT X.K ta) := by
  refine ⟨fun pins s σ H R I h => ?_⟩
  refine Call_ (ld_blt I hg hm boot_enumerate (PyProof.Rows.callWith_type1 (thn (ha.run pos pins s σ H _ I h) fun us s1 ⟨vs, H1, I1, r1, q1⟩ => ?_) hs rfl))
  obtain ⟨a, xs, ex, hq, q⟩ := q1
  subst ex
  cases r1 with
  | cons r rr =>
    cases rr
    cases r
    obtain ⟨its, rv, p', hz⟩ := I1.tuple hq
    refine dv_call_enum (begins_tuple a its.toArray) p' fun h' he hit hk => wpAny_pyIter_enum he ?_
    have I2 : Inv X pins σ H1 { s1 with heap := h' } := I1.kept (t' := s1.toks) hk
    refine ⟨s1.heap.objs.size + 1, [s1.heap.objs.size + 1, s1.heap.objs.size], _, _, H1, rfl, I2, turn_enumT a (s1.heap.objs.size + 1) s1.heap.objs.size, ⟨⟨.none, he⟩, ⟨_, hit, rfl, rfl⟩, Nat.succ_ne_self _⟩, fun b hb => ?_, q⟩
    have e' : b = s1.heap.objs.size + 1 ∨ b = s1.heap.objs.size := by simpa using hb
    have hle : s1.heap.objs.size ≤ b := by
      rcases e' with z | z
      · rw [z]; exact Nat.le_succ _
      · rw [z]; exact Nat.le_refl _
    exact I1.fpOk hle (I1.hok.fresh hle)
def enumL (xs : List D) : List D := xs.mapIdx fun i x => .tup [.int (i : Nat), x]
section
variable {fz : Hp} {ph : List Addr}
theorem it_enum {K : PySem.W.Frag} {L : Lams} {tabs : List (Addr × Str)} {hx : Option (Addr × Str)} {a : Addr} {vs : List V} {ds : List D} (ha : SqT K fz a vs) (r : Reps K L fz ph ds vs) : ItOk ⟨K, L, tabs, hx⟩ (Iet K a) (enumL ds) fz ph where
  go := fun i fz1 H1 ph1 st1 m s hi => by
    have h1 : SqT K H1 a vs := s.sqT (sqT_more m.fz ha)
    have hl := Reps.length (T := ⟨K, L, tabs, hx⟩) r
    have hi' : i < vs.length := by rw [← hl]; simpa [enumL] using hi
    exact ⟨vs, vs[i], h1, by simp⟩
  yld := fun i d fz1 H1 ph1 st1 x H' m s hd y => by
    obtain ⟨Tt, xv, e1, hn, e2, y⟩ := y
    subst e1 e2
    have hi : i < ds.length := by
      have := (List.getElem?_eq_some_iff.mp hd).1
      simpa [enumL] using this
    have ed : d = .tup [.int (i : Nat), ds[i]] := by
      have : (enumL ds)[i]? = some (.tup [.int (i : Nat), ds[i]]) := by simp [enumL, hi]
      rw [this] at hd
      exact (Option.some.inj hd).symm
    subst ed
    obtain ⟨u, hu, ru⟩ := Reps.get (T := ⟨K, L, tabs, hx⟩) r (List.getElem?_eq_getElem hi)
    have := y vs (s.sqT (sqT_more m.fz ha))
    rw [hu] at this
    cases this
    refine ⟨_, ph1, Ext.laid s hn, s.laid hn (fun ps q => by cases q), new_tup (T := ⟨K, L, tabs, hx⟩) s hn ?_⟩
    simp only [Reps, Rep]
    exact ⟨_, _, rfl, rfl, _, _, rfl, Rep.more m _ _ ru, rfl⟩
  stop := fun fz1 H1 ph1 st1 m s => ⟨vs, s.sqT (sqT_more m.fz ha), by rw [← Reps.length (T := ⟨K, L, tabs, hx⟩) r]; simp [enumL]⟩
theorem it_enumL {K : PySem.W.Frag} {L : Lams} {tabs : List (Addr × Str)} {hx : Option (Addr × Str)} {a : Addr} {vs : List V} {ds : List D} (ha : Rd fz a (.lst vs)) (r : Reps K L fz ph ds vs) : ItOk ⟨K, L, tabs, hx⟩ (Ite K a) (enumL ds) fz ph where
  go := fun i fz1 H1 ph1 st1 m s hi => by
    have h1 : SqL K H1 a vs := .inl (s.rd (rd_more m.fz ha))
    have hl := Reps.length (T := ⟨K, L, tabs, hx⟩) r
    have hi' : i < vs.length := by rw [← hl]; simpa [enumL] using hi
    exact ⟨vs, vs[i], h1, by simp⟩
  yld := fun i d fz1 H1 ph1 st1 x H' m s hd y => by
    obtain ⟨Tt, xv, e1, hn, e2, y⟩ := y
    subst e1 e2
    have hi : i < ds.length := by
      have := (List.getElem?_eq_some_iff.mp hd).1
      simpa [enumL] using this
    have ed : d = .tup [.int (i : Nat), ds[i]] := by
      have : (enumL ds)[i]? = some (.tup [.int (i : Nat), ds[i]]) := by simp [enumL, hi]
      rw [this] at hd
      exact (Option.some.inj hd).symm
    subst ed
    obtain ⟨u, hu, ru⟩ := Reps.get (T := ⟨K, L, tabs, hx⟩) r (List.getElem?_eq_getElem hi)
    have := y vs (.inl (s.rd (rd_more m.fz ha)))
    rw [hu] at this
    cases this
    refine ⟨_, ph1, Ext.laid s hn, s.laid hn (fun ps q => by cases q), new_tup (T := ⟨K, L, tabs, hx⟩) s hn ?_⟩
    simp only [Reps, Rep]
    exact ⟨_, _, rfl, rfl, _, _, rfl, Rep.more m _ _ ru, rfl⟩
  stop := fun fz1 H1 ph1 st1 m s => ⟨vs, .inl (s.rd (rd_more m.fz ha)), by rw [← Reps.length (T := ⟨K, L, tabs, hx⟩) r]; simp [enumL]⟩
end
def enumD (ds : List D) (st : Store) : R (List D) := match ds with
  | [.tup xs] => .ok (enumL xs) st
  | [.lst xs] => .ok (enumL xs) st
  | _ => .stuck
theorem si_enum {c : Cd} {cm : Bool} {sc : Scope} {a : PySem.Expr} {fs : List Sh} {p pos tpos : Pos} {elts : List PySem.Expr} {kk : Nat} (hg : glB sc "enumerate" = true) (hm : c.mg "enumerate" = none) (ha : SA c cm sc [a] fs) :
    SI c cm sc (.Tuple elts kk tpos) (.Call (.Name "enumerate" p) [a] [] pos) (shIts enumD fs) := fun X W hX tk => by
  have hst : notStar a = true := by have := ha.1; simpa [notStars] using this
  have e1 : starEach [a] X.env = [(false, eval a X.env)] := by rw [star_each hst]; rfl
  refine piI (pi_or (pi_enumT (glB_ok hX hg) (by rw [hX.mg]; exact hm) (ha.2 X W hX tk) e1) (pi_enum (glB_ok hX hg) (by rw [hX.mg]; exact hm) (ha.2 X W hX tk) e1)) fun σ H Q ⟨fz, ph, ρ, st, s, e, h⟩ => ?_
  rw [hX.K]
  have h : RI c.T W fz ph σ H Q ((evs fs ρ st).bind enumD) := h
  cases q : evs fs ρ st with
  | stuck => rw [q] at h; exact h.elim
  | ex c fs st1 => rw [q] at h; exact .inl ⟨fz, ph, ρ, st, s, e, by rw [q]; exact h⟩
  | ok ds st1 =>
    rw [q] at h
    have h : RI c.T W fz ph σ H Q (enumD ds st1) := h
    unfold enumD at h
    split at h
    · rename_i xs
      exact .inl ⟨fz, ph, ρ, st, s, e, by
        rw [q]
        intro f p' H' us x s' r
        obtain ⟨u, rfl, r1⟩ := reps1 r
        obtain ⟨ad, vs, e1, ha, ra⟩ := rep_tup r1
        exact ⟨ad, vs, by rw [e1], s'.sqT ha, h f p' H' _ x s' (it_enum ha ra)⟩⟩
    · rename_i xs
      exact .inr ⟨fz, ph, ρ, st, s, e, by
        rw [q]
        intro f p' H' us x s' r
        obtain ⟨u, rfl, r1⟩ := reps1 r
        obtain ⟨ad, vs, e1, ha, ra⟩ := rep_lst r1
        exact ⟨ad, vs, by rw [e1], .inl (s'.rd ha), h f p' H' _ x s' (it_enumL ha ra)⟩⟩
    · exact h.elim
end DV

namespace PySem
open Sem (wp)
section
variable {prog : Program} {w : World} {A : Around} {E : Value → Shared → Prop} {s : Shared}
/-- next of a zip over two tuples whose last pair is still out -/
theorem dv_zip_item {z TI TO T i1 i2 l1 l2 : Addr} {f : Bool} {oT : Obj} {k1 k2 : Nat} {xs ys : Array Value} {x y : Value} {Q : Option Value → Shared → Prop} (D : ZipApart z TI TO i1 i2 l1 l2)
    (hz : IsZipHeld s.heap z TI TO T f) (hT : s.heap.get? T = some oT) (hTI : IsPair s.heap TI (.ref i1) (.ref i2))
    (h1 : s.heap.IsTupleIter i1 l1 k1) (h2 : s.heap.IsTupleIter i2 l2 k2) (hl1 : s.heap.IsTuple l1 xs) (hl2 : s.heap.IsTuple l2 ys) (hx : xs[k1]? = some x) (hy : ys[k2]? = some y)
    (hQ : ∀ h', IsZipHeld h' z TI TO T true → h'.IsTupleIter i1 l1 (k1 + 1) → h'.IsTupleIter i2 l2 (k2 + 1) → IsPair h' s.heap.objs.size x y →
      (∀ c o, c ≠ z → c ≠ i1 → c ≠ i2 → s.heap.get? c = some o → h'.get? c = some o) → Q (some (.ref s.heap.objs.size)) { s with heap := h' }) :
    wpAny (model prog w) A (pyNext (.ref z)) Q E s := by
  have hTy : s.TypeIs (.ref z) "zip" := ⟨_, hz, rfl⟩
  have body : ∀ E' : Value → Shared → Prop, wpAny (model prog w) A.in1 (Builtin.«zip.__next__» ⟨[.ref z], []⟩) (fun fin s' => ∃ v, fin = .done (.ret v) ∧ Q (some v) s') E' s := by
    intro E'
    show wpAny _ _ (field (.ref z) 2 >>= _) _ _ _
    refine wpAny_bind (wpAny_field hz rfl (x := .bool false) rfl ?_)
    show wpAny _ _ (field (.ref z) 3 >>= _) _ _ _
    refine wpAny_bind (wpAny_field hz rfl (x := .ref TI) rfl ?_)
    refine wpAny_bind (wpAny_seqItems hTI rfl ?_)
    show wpAny _ _ (Builtin.SmallTypes.ownedTupleIsFree (.ref z) >>= _) _ _ _
    refine wpAny_bind (wpAny_tupleHeld_zip hz hT fun ha za sa => ?_)
    simp only [Bool.false_eq_true, if_false]
    refine wpAny_bind ?_
    rw [← Array.forIn_toList]
    simp only [List.forIn_cons, List.forIn_nil]
    refine wpAny_bind (wpAny_bind (wpAny_holding ?_))
    show wpAny _ _ (Builtin.SmallTypes.nextOf (.ref i1) >>= _) _ _ _
    refine wpAny_bind (wpAny_nextOf_tuple_item (s := { s with heap := ha }) (h1.extBut sa.extBut D.i1z) (hl1.at fun o e => sa.extBut _ _ D.l1z e) hx fun hb ib sb => wpAny_pure ?_)
    refine wpAny_pure ?_
    refine wpAny_bind (wpAny_bind (wpAny_holding ?_))
    show wpAny _ _ (Builtin.SmallTypes.nextOf (.ref i2) >>= _) _ _ _
    refine wpAny_bind (wpAny_nextOf_tuple_item (s := { s with heap := hb }) ((h2.extBut sa.extBut D.i2z).extBut sb.extBut D.i12.symm) ((hl2.at fun o e => sa.extBut _ _ D.l2z e).at fun o e => sb.extBut _ _ D.l2i1 e) hy fun hc ic sc => wpAny_pure ?_)
    refine wpAny_pure (wpAny_pure ?_)
    show wpAny _ _ (newTuple [x, y] >>= _) _ _ _
    refine wpAny_bind (wpAny_newTuple ?_)
    have size : hc.objs.size = s.heap.objs.size := by rw [sc.1, sb.1, sa.1]
    have zc : IsZipHeld hc z TI TO T true := sc.extBut _ _ D.i2z.symm (sb.extBut _ _ D.i1z.symm za)
    have stays : ∀ c o, c ≠ z → c ≠ i1 → c ≠ i2 → s.heap.get? c = some o → hc.get? c = some o := fun c o c1 c2 c3 e => sc.extBut _ _ c3 (sb.extBut _ _ c2 (sa.extBut _ _ c1 e))
    have one : hc.IsTupleIter i1 l1 (k1 + 1) := ib.extBut sc.extBut D.i12
    refine wpAny_pure ⟨_, rfl, ?_⟩
    show Q (some (.ref hc.objs.size)) _
    have hp : IsPair (hc.push { cls := .type "tuple", data := .seq #[x, y] }) hc.objs.size x y := Heap.get?_push_size _ rfl
    rw [size] at hp ⊢
    exact hQ _ (Heap.get?_push_of_some _ zc) (one.at fun o e => Heap.get?_push_of_some _ e) (ic.at fun o e => Heap.get?_push_of_some _ e) hp fun c o c1 c2 c3 e => Heap.get?_push_of_some _ (stays c o c1 c2 c3 e)
  unfold pyNext
  exact wpAny_bind (wpAny_attempt (wpAny_callSpecial?_slot (name := Str.ofString "__next__") hTy F.slot_zip_next
    (wpAny_call_entry F.slot_zip_next hTy F.entry_zip_next (wpAny_mono (body _) (fun fin s' ⟨v, e, q⟩ => ⟨v, e, wpAny_pure q⟩) fun _ _ e => e) (F.args_zip_next_1 _))))
theorem dv_zip_end {z TI TO T i1 i2 l1 l2 : Addr} {f : Bool} {oT : Obj} {k1 k2 : Nat} {xs ys : Array Value} {Q : Option Value → Shared → Prop} (hh : A.handled = none) (D : ZipApart z TI TO i1 i2 l1 l2)
    (hz : IsZipHeld s.heap z TI TO T f) (hT : s.heap.get? T = some oT) (hTI : IsPair s.heap TI (.ref i1) (.ref i2))
    (h1 : s.heap.IsTupleIter i1 l1 k1) (h2 : s.heap.IsTupleIter i2 l2 k2) (hl1 : s.heap.IsTuple l1 xs) (hl2 : s.heap.IsTuple l2 ys) (hend : xs[k1]? = none ∨ ys[k2]? = none)
    (hQ : ∀ h', (∀ c o, c ≠ z → c ≠ i1 → c ≠ i2 → s.heap.get? c = some o → h'.get? c = some o) → Q none { s with heap := h' }) : wpAny (model prog w) A (pyNext (.ref z)) Q E s := by
  have hTy : s.TypeIs (.ref z) "zip" := ⟨_, hz, rfl⟩
  unfold pyNext
  refine wpAny_bind (wpAny_attempt (wpAny_callSpecial?_slot (name := Str.ofString "__next__") hTy F.slot_zip_next (wpAny_call_entry F.slot_zip_next hTy F.entry_zip_next ?_ (F.args_zip_next_1 _))))
  have out : ∀ (h' : Heap) (e : Addr) (s2 : Shared), s2 = { s with heap := h' } → (∀ c o, c ≠ z → c ≠ i1 → c ≠ i2 → s.heap.get? c = some o → h'.get? c = some o) → (∃ o, h'.get? e = some o ∧ o.cls = .type "StopIteration") →
      wpAny (model prog w) A (isInstance (.ref e) (.type "StopIteration") >>= fun b => if b = true then pure none else throw (.ref e)) Q E s2 := fun h' e s2 es hk ⟨o, ho, hc⟩ => by
    subst es
    refine wpAny_bind (wpAny_isInstance (T := "StopIteration") (b := true) ⟨o, ho, hc⟩ isSubtype_stop ?_)
    exact wpAny_pure (hQ h' hk)
  show wpAny _ _ (field (.ref z) 2 >>= _) _ _ _
  refine wpAny_bind (wpAny_field hz rfl (x := .bool false) rfl ?_)
  show wpAny _ _ (field (.ref z) 3 >>= _) _ _ _
  refine wpAny_bind (wpAny_field hz rfl (x := .ref TI) rfl ?_)
  refine wpAny_bind (wpAny_seqItems hTI rfl ?_)
  show wpAny _ _ (Builtin.SmallTypes.ownedTupleIsFree (.ref z) >>= _) _ _ _
  refine wpAny_bind (wpAny_tupleHeld_zip hz hT fun ha za sa => ?_)
  simp only [Bool.false_eq_true, if_false]
  refine wpAny_bind ?_
  rw [← Array.forIn_toList]
  simp only [List.forIn_cons, List.forIn_nil]
  refine wpAny_bind (wpAny_bind (wpAny_holding ?_))
  show wpAny _ _ (Builtin.SmallTypes.nextOf (.ref i1) >>= _) _ _ _
  cases hx : xs[k1]? with
  | none =>
    refine wpAny_bind (wpAny_nextOf_tuple_end (s := { s with heap := ha }) hh (h1.extBut sa.extBut D.i1z) (hl1.at fun o e => sa.extBut _ _ D.l1z e) hx fun hb e sb he => ?_)
    exact out hb e _ rfl (fun c o c1 c2 _ x => sb _ _ c2 (sa.extBut _ _ c1 x)) he
  | some x =>
    have hy : ys[k2]? = none := by
      rcases hend with h | h
      · rw [hx] at h; cases h
      · exact h
    refine wpAny_bind (wpAny_nextOf_tuple_item (s := { s with heap := ha }) (h1.extBut sa.extBut D.i1z) (hl1.at fun o e => sa.extBut _ _ D.l1z e) hx fun hb ib sb => wpAny_pure ?_)
    refine wpAny_pure ?_
    refine wpAny_bind (wpAny_bind (wpAny_holding ?_))
    show wpAny _ _ (Builtin.SmallTypes.nextOf (.ref i2) >>= _) _ _ _
    refine wpAny_bind (wpAny_nextOf_tuple_end (s := { s with heap := hb }) hh ((h2.extBut sa.extBut D.i2z).extBut sb.extBut D.i12.symm) ((hl2.at fun o e => sa.extBut _ _ D.l2z e).at fun o e => sb.extBut _ _ D.l2i1 e) hy fun hc e sc he => ?_)
    exact out hc e _ rfl (fun c o c1 c2 c3 x => sc _ _ c3 (sb.extBut _ _ c2 (sa.extBut _ _ c1 x))) he
end
theorem tuple_there {h : Heap} {l : Addr} {xs : Array Value} (x : h.IsTuple l xs) : ∃ o, h.get? l = some o := let ⟨o, e, _⟩ := x; ⟨o, e⟩
section
variable {prog : Program} {w : World}
/-- zip of two tuples as what dict() is given -/
theorem dv_pairs_zip (z TI TO i1 i2 l1 l2 : Addr) (D : ZipApart z TI TO i1 i2 l1 l2) (xs ys : Array Value) :
    PairArg prog w "zip" z [z, TI, TO, i1, i2, l1, l2] [z, TO, i1, i2] (min xs.size ys.size) (fun i k v => xs[i]? = some k ∧ ys[i]? = some v)
      (fun h => IsZip h z TI TO .none ∧ IsPair h TI (.ref i1) (.ref i2) ∧ (∃ a b, IsPair h TO a b) ∧ h.IsTupleIter i1 l1 0 ∧ h.IsTupleIter i2 l2 0 ∧ h.IsTuple l1 xs ∧ h.IsTuple l2 ys) where
  type := fun s ok => ⟨_, ok.1, rfl⟩
  notDict := by decide
  keep := fun h h' ok hk => by
    obtain ⟨hz, hTI, ⟨a, b, hTO⟩, h1, h2, hl1, hl2⟩ := ok
    exact ⟨hk _ _ hz, hk _ _ hTI, ⟨a, b, hk _ _ hTO⟩, h1.at fun o e => hk _ o e, h2.at fun o e => hk _ o e, hl1.at fun o e => hk _ o e, hl2.at fun o e => hk _ o e⟩
  there := fun h ok b hb => by
    obtain ⟨hz, hTI, ⟨a, c, hTO⟩, ⟨o1, h1, _⟩, ⟨o2, h2, _⟩, hl1, hl2⟩ := ok
    simp only [List.mem_cons, List.not_mem_nil, or_false] at hb
    rcases hb with rfl | rfl | rfl | rfl | rfl | rfl | rfl
    · exact ⟨_, hz⟩
    · exact ⟨_, hTI⟩
    · exact ⟨_, hTO⟩
    · exact ⟨_, h1⟩
    · exact ⟨_, h2⟩
    · exact tuple_there hl1
    · exact tuple_there hl2
  sub := fun b hb => by simp at hb ⊢; rcases hb with rfl | rfl | rfl | rfl <;> simp
  noKeys := fun A s Q E hA ok h => getAttrOr_miss_zip ok.1 rfl rfl rfl zip_no_keys (by decide +kernel) hA h
  iter := fun A s d Q E hA ok hd hdf h => by
    obtain ⟨hz, hTI, ⟨a, b, hTO⟩, h1, h2, hl1, hl2⟩ := ok
    simp only [List.mem_cons, List.not_mem_nil, or_false, not_or] at hdf
    obtain ⟨dz, dTI, dTO, di1, di2, dl1, dl2⟩ := hdf
    refine wpAny_pyIter_zip hz (h z [z, TO, i1, i2] (fun i h => IsPair h TI (.ref i1) (.ref i2) ∧ h.IsTupleIter i1 l1 i ∧ h.IsTupleIter i2 l2 i ∧ h.IsTuple l1 xs ∧ h.IsTuple l2 ys ∧
      ((IsZip h z TI TO .none ∧ ∃ a b, IsPair h TO a b) ∨ ∃ T f oT, IsZipHeld h z TI TO T f ∧ h.get? T = some oT ∧ T ≠ z ∧ T ≠ i1 ∧ T ≠ i2 ∧ T ≠ d)) s.heap s.toks ?_
      ⟨hTI, h1, h2, hl1, hl2, .inl ⟨hz, a, b, hTO⟩⟩ (fun _ _ e => e) fun b hb => .inl hb)
    refine ⟨fun hm => ?_, fun i h₁ h₂ st hk => ?_, fun i s₁ Q₁ E₁ hi st hds hQ => ?_, fun s₁ Q₁ E₁ st hQ => ?_⟩
    · simp only [List.mem_cons, List.not_mem_nil, or_false] at hm
      rcases hm with e | e | e | e
      · exact dz e
      · exact dTO e
      · exact di1 e
      · exact di2 e
    · obtain ⟨hTI, h1, h2, hl1, hl2, hz⟩ := st
      refine ⟨hk _ _ (Ne.symm dTI) hTI, h1.at fun o e => hk _ o (Ne.symm di1) e, h2.at fun o e => hk _ o (Ne.symm di2) e, hl1.at fun o e => hk _ o (Ne.symm dl1) e, hl2.at fun o e => hk _ o (Ne.symm dl2) e, ?_⟩
      rcases hz with ⟨hz, a, b, hTO⟩ | ⟨T, f, oT, hz, hT, r1, r2, r3, r4⟩
      · exact .inl ⟨hk _ _ (Ne.symm dz) hz, a, b, hk _ _ (Ne.symm dTO) hTO⟩
      · exact .inr ⟨T, f, oT, hk _ _ (Ne.symm dz) hz, hk _ _ r4 hT, r1, r2, r3, r4⟩
    · obtain ⟨hTI, h1, h2, hl1, hl2, hz⟩ := st
      have ex := Array.getElem?_eq_getElem (Nat.lt_of_lt_of_le hi (Nat.min_le_left ..))
      have ey := Array.getElem?_eq_getElem (Nat.lt_of_lt_of_le hi (Nat.min_le_right ..))
      have lt : ∀ {c o}, s₁.heap.get? c = some o → s₁.heap.objs.size ≠ c := fun e => Nat.ne_of_gt (Heap.lt_size e)
      have n1 : s₁.heap.objs.size ≠ i1 := let ⟨_, e, _⟩ := h1; lt e
      have n2 : s₁.heap.objs.size ≠ i2 := let ⟨_, e, _⟩ := h2; lt e
      rcases hz with ⟨hz, a, b, hTO⟩ | ⟨T, f, oT, hz, hT, r1, r2, r3, r4⟩
      · refine RZ.pyNext_zipT_item D hz hTI hTO h1 h2 hl1 hl2 ex ey fun h' a1 a2 a3 a4 a5 a6 hk => ?_
        exact hQ s₁.heap.objs.size _ _ h' s₁.toks ⟨ex, ey⟩ (.inl ⟨_, a5, rfl, _, rfl⟩)
          ⟨hk _ _ D.TIz D.TITO D.TIi1 D.TIi2 hTI, a3, a4, hl1.at fun o e => hk _ o D.l1z D.l1TO D.l1i1 D.l1i2 e, hl2.at fun o e => hk _ o D.l2z D.l2TO D.l2i1 D.l2i2 e,
            .inr ⟨s₁.heap.objs.size, false, _, a1, a5, lt hz, n1, n2, Nat.ne_of_gt hds⟩⟩
          fun c o hc e => hk c o (fun x => hc (by simp [x])) (fun x => hc (by simp [x])) (fun x => hc (by simp [x])) (fun x => hc (by simp [x])) e
      · refine dv_zip_item D hz hT hTI h1 h2 hl1 hl2 ex ey fun h' a1 a3 a4 a5 hk => ?_
        exact hQ s₁.heap.objs.size _ _ h' s₁.toks ⟨ex, ey⟩ (.inl ⟨_, a5, rfl, _, rfl⟩)
          ⟨hk _ _ D.TIz D.TIi1 D.TIi2 hTI, a3, a4, hl1.at fun o e => hk _ o D.l1z D.l1i1 D.l1i2 e, hl2.at fun o e => hk _ o D.l2z D.l2i1 D.l2i2 e,
            .inr ⟨T, true, oT, a1, hk _ _ r1 r2 r3 hT, r1, r2, r3, r4⟩⟩
          fun c o hc e => hk c o (fun x => hc (by simp [x])) (fun x => hc (by simp [x])) (fun x => hc (by simp [x])) e
    · obtain ⟨hTI, h1, h2, hl1, hl2, hz⟩ := st
      have hend : xs[min xs.size ys.size]? = none ∨ ys[min xs.size ys.size]? = none := by
        rcases Nat.le_total xs.size ys.size with h | h
        · exact .inl (Array.getElem?_eq_none (by rw [Nat.min_eq_left h]; exact Nat.le_refl _))
        · exact .inr (Array.getElem?_eq_none (by rw [Nat.min_eq_right h]; exact Nat.le_refl _))
      rcases hz with ⟨hz, a, b, hTO⟩ | ⟨T, f, oT, hz, hT, r1, r2, r3, r4⟩
      · exact RZ.pyNext_zipT_end hA D hz hTI hTO h1 h2 hl1 hl2 hend fun h' hk => hQ h' s₁.toks fun c o hc e => hk c o (fun x => hc (by simp [x])) (fun x => hc (by simp [x])) (fun x => hc (by simp [x])) (fun x => hc (by simp [x])) e
      · exact dv_zip_end hA D hz hT hTI h1 h2 hl1 hl2 hend fun h' hk => hQ h' s₁.toks fun c o hc e => hk c o (fun x => hc (by simp [x])) (fun x => hc (by simp [x])) (fun x => hc (by simp [x])) e
end
end PySem

namespace DV
open PySem PySem.Spec PyProof.Rows L2
/-! ### dict(zip(t, u)), two tuples -/
theorem zip_apart {n l1 l2 : Nat} (h1 : l1 < n) (h2 : l2 < n) : ZipApart (n + 4) (n + 2) (n + 3) n (n + 1) l1 l2 := by
  constructor <;> (show (_ : Nat) ≠ (_ : Nat); omega)
def zipK : List D → List D → Option (List (Key × D))
  | d :: ds, e :: es => match keyD d, zipK ds es with
    | some k, some r => some ((k, e) :: r)
    | _, _ => none
  | _, _ => some []
def putKD (kvs : List (Key × D)) (k : Key) (v : D) : List (Key × D) :=
  if (kvs.any fun kv => decide (kv.1 = k)) = true then kvs.map (fun kv => if kv.1 = k then (kv.1, v) else kv) else kvs ++ [(k, v)]
def mergeKD (kvs more : List (Key × D)) : List (Key × D) := more.foldl (fun acc kv => putKD acc kv.1 kv.2) kvs
def dictZipP (d e : D) (st : Store) : R D := match d, e with
  | .tup xs, .tup ys => okO ((zipK xs ys).map fun kvs => .dK (mergeKD [] kvs)) st
  | _, _ => .stuck
section
variable {T : Pa} {fz H : Hp} {ph : List Addr} {st : Store} {σ : L2.St} {W : WX} {Q : VK}
theorem repK_any {k : Key} : ∀ {kvs : List (Key × D)} {vs : List (Key × V)}, RepK T.K T.L fz ph kvs vs → (vs.any fun kv => decide (kv.1 = k)) = kvs.any fun kv => decide (kv.1 = k)
  | [], _, h => by simp only [RepK] at h; subst h; rfl
  | (f, x) :: ds, _, h => by
    simp only [RepK] at h
    obtain ⟨v, r, e1, h1, h2⟩ := h
    subst e1
    simp only [List.any_cons]
    rw [repK_any h2]
theorem repK_map {k : Key} {d : D} {v : V} (r : Rep T.K T.L fz ph d v) : ∀ {kvs : List (Key × D)} {vs : List (Key × V)}, RepK T.K T.L fz ph kvs vs → RepK T.K T.L fz ph (kvs.map fun kv => if kv.1 = k then (kv.1, d) else kv) (vs.map fun kv => if kv.1 = k then (kv.1, v) else kv)
  | [], _, h => by simp only [RepK] at h; subst h; simp only [List.map_nil, RepK]
  | (f, x) :: ds, _, h => by
    simp only [RepK] at h
    obtain ⟨w, q, e1, h1, h2⟩ := h
    subst e1
    by_cases z : f = k
    · simp only [List.map_cons, if_pos z, RepK]
      exact ⟨v, _, rfl, r, repK_map r h2⟩
    · simp only [List.map_cons, if_neg z, RepK]
      exact ⟨w, _, rfl, h1, repK_map r h2⟩
theorem repK_snoc {k : Key} {d : D} {v : V} (r : Rep T.K T.L fz ph d v) : ∀ {kvs : List (Key × D)} {vs : List (Key × V)}, RepK T.K T.L fz ph kvs vs → RepK T.K T.L fz ph (kvs ++ [(k, d)]) (vs ++ [(k, v)])
  | [], _, h => by simp only [RepK] at h; subst h; simp only [List.nil_append, RepK]; exact ⟨v, [], rfl, r, rfl⟩
  | (f, x) :: ds, _, h => by
    simp only [RepK] at h
    obtain ⟨w, q, e1, h1, h2⟩ := h
    subst e1
    simp only [List.cons_append, RepK]
    exact ⟨w, _, rfl, h1, repK_snoc r h2⟩
theorem repK_put {k : Key} {d : D} {v : V} {kvs : List (Key × D)} {vs : List (Key × V)} (r : Rep T.K T.L fz ph d v) (h : RepK T.K T.L fz ph kvs vs) : RepK T.K T.L fz ph (putKD kvs k d) (putK vs k v) := by
  unfold putKD putK
  rw [repK_any h]
  by_cases z : (kvs.any fun kv => decide (kv.1 = k)) = true
  · rw [if_pos z, if_pos z]; exact repK_map r h
  · rw [if_neg z, if_neg z]; exact repK_snoc r h
theorem repK_merge : ∀ {more : List (Key × D)} {mv : List (Key × V)} {kvs : List (Key × D)} {vs : List (Key × V)}, RepK T.K T.L fz ph more mv → RepK T.K T.L fz ph kvs vs → RepK T.K T.L fz ph (mergeKD kvs more) (mergeK vs mv)
  | [], _, _, _, h, r => by simp only [RepK] at h; subst h; exact r
  | (f, x) :: ds, _, kvs, vs, h, r => by
    simp only [RepK] at h
    obtain ⟨w, q, e1, h1, h2⟩ := h
    subst e1
    show RepK T.K T.L fz ph (mergeKD (putKD kvs f x) ds) (mergeK (putK vs f w) q)
    exact repK_merge h2 (repK_put h1 r)
/-- the pairs by keys -/
theorem zipK_ok {P : Program} {w : World} : ∀ {xs ys : List D} {vs ws : List V} {us zs : List Value} {kvs : List (Key × D)}, Reps T.K T.L fz ph xs vs → Reps T.K T.L fz ph ys ws → Vals vs us → Vals ws zs → zipK xs ys = some kvs →
    ∃ (kv : List (Key × V)) (ku : List (Key × Value)), RepK T.K T.L fz ph kvs kv ∧ KV kv ku ∧ ku.length = min us.length zs.length ∧ ∀ (i : Nat) (a b : Value), us[i]? = some a → zs[i]? = some b → ∃ k, ku[i]? = some (k, b) ∧ (mixKind P w).is k a = true
  | [], ys, vs, ws, us, zs, kvs, r1, r2, p1, p2, e => by
    cases (Option.some.inj (show some [] = some kvs from e))
    rw [reps0 r1] at p1
    cases p1
    exact ⟨[], [], by simp only [RepK], .nil, by simp, fun i a b h => by simp at h⟩
  | x :: xs, [], vs, ws, us, zs, kvs, r1, r2, p1, p2, e => by
    cases (Option.some.inj (show some [] = some kvs from e))
    rw [reps0 r2] at p2
    cases p2
    exact ⟨[], [], by simp only [RepK], .nil, by simp, fun i a b _ h => by simp at h⟩
  | x :: xs, y :: ys, vs, ws, us, zs, kvs, r1, r2, p1, p2, e => by
    simp only [Reps] at r1 r2
    obtain ⟨v, vr, e1, rx, r1⟩ := r1
    obtain ⟨w', wr, e2, ry, r2⟩ := r2
    subst e1 e2
    cases p1 with
    | cons q1 p1 =>
      cases p2 with
      | cons q2 p2 =>
        have e : (match keyD x, zipK xs ys with
          | some k, some r => some ((k, y) :: r)
          | _, _ => none) = some kvs := e
        cases ek : keyD x with
        | none => rw [ek] at e; cases e
        | some k =>
          cases ez : zipK xs ys with
          | none => rw [ek, ez] at e; cases e
          | some r =>
            rw [ek, ez] at e
            cases (Option.some.inj e)
            obtain ⟨kv, ku, a1, a2, a3, a4⟩ := zipK_ok (P := P) (w := w) r1 r2 p1 p2 ez
            refine ⟨(k, w') :: kv, (k, _) :: ku, by simp only [RepK]; exact ⟨w', kv, rfl, ry, a1⟩, .cons ⟨rfl, q2⟩ a2, by simp [a3], fun i a b h1 h2 => ?_⟩
            cases i with
            | zero =>
              simp at h1 h2
              subst h1 h2
              have := key_rep ek rx
              subst this
              exact ⟨k, rfl, kV_is q1⟩
            | succ i =>
              simp only [List.getElem?_cons_succ] at h1 h2 ⊢
              exact a4 i a b h1 h2
end
def shDictZip (f g : Sh) : Sh := fun ρ st => (f ρ st).bind fun d st => (g ρ st).bind fun e st => dictZipP d e st
theorem se_dictZip {c : Cd} {sc : Scope} {a b : PySem.Expr} {fa fb : Sh} {p1 p2 p3 p4 : Pos} (hg : glB sc "dict" = true) (hm : c.mg "dict" = none) (hg2 : glB sc "zip" = true) (hm2 : c.mg "zip" = none) (ha : SE c true sc a fa) (hb : SE c true sc b fb) (hsa : notStar a = true) (hsb : notStar b = true) :
    SE c true sc (.Call (.Name "dict" p1) [.Call (.Name "zip" p2) [a, b] [] p3] [] p4) (shDictZip fa fb) := fun X W hX tk => ⟨fun pins s σ H Q I h => by
  have hs : SA c true sc [a, b] [fa, fb] := sa_cons ha (sa_cons hb sa_nil hsb) hsa
  have h2 : tA c.T W [fa, fb] σ H fun us H1 => ∃ fz ph st d e, SOk c.T fz ph st H1 ∧ Reps c.T.K c.T.L fz ph [d, e] us ∧ RP c.T W fz ph σ H1 Q (dictZipP d e st) := by
    obtain ⟨fz, ph, ρ, st, so, e, h⟩ := h
    have h : RP c.T W fz ph σ H Q ((fa ρ st).bind fun d st => (fb ρ st).bind fun e st => dictZipP d e st) := h
    refine ⟨fz, ph, ρ, st, so, e, ?_⟩
    show RPs c.T W fz ph σ H _ ((fa ρ st).bind fun d st => ((fb ρ st).bind fun e st => R.ok [e] st).bind fun ds st => .ok (d :: ds) st)
    cases q : fa ρ st with
    | stuck => rw [q] at h; exact h.elim
    | ex c fs st1 => rw [q] at h; exact h
    | ok d st1 =>
      rw [q] at h
      have h : RP c.T W fz ph σ H Q ((fb ρ st1).bind fun e st => dictZipP d e st) := h
      show RPs c.T W fz ph σ H _ (((fb ρ st1).bind fun e st => R.ok [e] st).bind fun ds st => .ok (d :: ds) st)
      cases q2 : fb ρ st1 with
      | stuck => rw [q2] at h; exact h.elim
      | ex c fs st2 => rw [q2] at h; exact h
      | ok e2 st2 =>
        rw [q2] at h
        have h : RP c.T W fz ph σ H Q (dictZipP d e2 st2) := h
        show RPs c.T W fz ph σ H _ (.ok [d, e2] st2)
        exact fun f p H' us x s' r => ⟨f, p, st2, d, e2, s', r, h.ext x⟩
  refine wpAny_Call_Name_kw (ld_blt I (glB_ok hX hg) (by rw [hX.mg]; exact hm) (by rfl) ?_ (by decide) (by decide))
  refine PyProof.Rows.callWith_type1 (args_cons (wpAny_Call_Name_kw (ld_blt I (glB_ok hX hg2) (by rw [hX.mg]; exact hm2) PyProof.Rows.boot_zip (PyProof.Rows.callWith_type1 (thn ((hs.2 X W hX tk).run _ pins s σ H _ I h2) fun us s1 ⟨vs, H1, I1, r1, q1⟩ => ?_) (star_each hsa) (by rw [star_each hsb]; rfl)) (by decide) (by decide))) rfl) rfl rfl
  obtain ⟨fz, ph, st, d, e, so, rd, q⟩ := q1
  obtain ⟨u, v, rfl, ra, rb⟩ := reps2 rd
  cases d with
  | tup xs =>
    cases e with
    | tup ys =>
      have q : RP c.T W fz ph σ H1 Q (okO ((zipK xs ys).map fun kvs => .dK (mergeKD [] kvs)) st) := q
      obtain ⟨z, e1, q⟩ := okO_ok q
      obtain ⟨kvs, e2, e3⟩ := Option.map_eq_some_iff.mp e1
      subst e3
      obtain ⟨l1, vs1, eu, hq1, rr1⟩ := rep_tup ra
      obtain ⟨l2, vs2, ev, hq2, rr2⟩ := rep_tup rb
      subst eu ev
      obtain ⟨u1, u2, rfl, ru1, ru2⟩ := vals2 r1
      cases ru1
      cases ru2
      obtain ⟨its1, rv1, pl1, hz1⟩ := I1.tuple (by rw [hX.K]; exact so.sqT hq1)
      obtain ⟨its2, rv2, pl2, hz2⟩ := I1.tuple (by rw [hX.K]; exact so.sqT hq2)
      have lt1 : l1 < s1.heap.objs.size := by obtain ⟨o, e, _⟩ := pl1; exact Heap.lt_size e
      have lt2 : l2 < s1.heap.objs.size := by obtain ⟨o, e, _⟩ := pl2; exact Heap.lt_size e
      have lv1 := rv1.length
      have lv2 := rv2.length
      refine RZ.call_zipT (s := s1) pl1 pl2 fun h' hz hTI hTO h1 h2 hsz hk => ?_
      have I2 : Inv X pins σ H1 { s1 with heap := h' } := I1.kept (t' := s1.toks) hk
      refine args_nil ?_
      obtain ⟨kv, ku, a1, a2, a3, a4⟩ := zipK_ok (P := X.prog) (w := X.w) rr1 rr2 rv1 rv2 e2
      refine call_dict_pairs (s := { s1 with heap := h' }) (knd := mixKind X.prog X.w) (kvs := ku) (dv_pairs_zip (s1.heap.objs.size + 4) (s1.heap.objs.size + 2) (s1.heap.objs.size + 3) s1.heap.objs.size (s1.heap.objs.size + 1) l1 l2 (zip_apart lt1 lt2) its1.toArray its2.toArray)
        (I1.ok.hd (hX.calm rfl).1) ⟨hz, hTI, ⟨_, _, hTO⟩, h1, h2, Heap.IsTuple.at pl1 fun o e => hk _ o e, Heap.IsTuple.at pl2 fun o e => hk _ o e⟩ ⟨by simpa using a3, fun i a b ⟨g1, g2⟩ => a4 i a b (by simpa using g1) (by simpa using g2)⟩ (by simp; omega) fun h'' tk hd hk2 => ?_
      have hlen : (mergeK [] kv).length ≤ sizeLine := by
        have := length_mergeK kv []
        have l3 : kv.length = ku.length := a2.length
        simp at this
        omega
      have hm' : (h'.objs.size == sysModules) = false := beq_eq_false_iff_ne.mpr (Nat.ne_of_gt I2.big)
      have hn : H1 h'.objs.size = none := I2.hok.fresh (Nat.le_refl _)
      have fpk : ∀ b ∈ [s1.heap.objs.size + 4, s1.heap.objs.size + 3, s1.heap.objs.size, s1.heap.objs.size + 1], FpOk X pins H1 b := fun b hb => by
        have hle : s1.heap.objs.size ≤ b := by
          simp only [List.mem_cons, List.not_mem_nil, or_false] at hb
          omega
        exact I1.fpOk hle (I1.hok.fresh hle)
      have I3 : Inv X pins σ (upd H1 h'.objs.size (.dK (mergeK [] kv))) { s1 with heap := h'', toks := tk } :=
        I2.turnedNew (ch := [s1.heap.objs.size + 4, s1.heap.objs.size + 3, s1.heap.objs.size, s1.heap.objs.size + 1]) (fun b o hb e => hk2 b o hb e) fpk (Nat.le_refl _) ⟨hlen, hm', merged [] ku, KV.merge a2 .nil, hd⟩
      exact ⟨.ref h'.objs.size, _, I3, rfl, q.new so hn (fun ps z => by cases z) (by
        simp only [Rep, DiK]
        exact ⟨_, _, rfl, .inl upd_same, RepK.more (More.laid so hn) _ _ (repK_merge a1 (by simp only [RepK]))⟩)⟩
    | _ => exact q.elim
  | _ => exact q.elim⟩
end DV

namespace DV
open PySem PySem.Spec PyProof.Rows L2

/-! ### len, repr, bool of an own class -/
section
variable {prog : Program} {w : World} {A : Around} {E : Value → Shared → Prop} {s : Shared} {K : PySem.W.Frag} {x C f : Addr} {ox : Obj} {od : Option Obj}
theorem own_lenB {Q : Value → Shared → Prop} (X : K.In s.heap) (I : PySem.W.InstAt s.heap x ox C od) (hs : PySem.W.findIn K (.ref C) "__len__" = some (some (.ref f))) (hf : PySem.W.isFn K (.ref f) = true) (h : wpAny (model prog w) A (call (.ref f) [.ref x]) (PySem.W.LenBack Q) E s) :
    wpAny (model prog w) A (Builtin.«len» ⟨[.ref x], []⟩) (fun fin s' => ∃ v, fin = .done (.ret v) ∧ ∃ n t, v = .int n t ∧ Q v s') E s := by
  unfold Builtin.«len»
  refine wpAny_bind (m := oneArg "len" _) (wpAny_pure (wpAny_bind (m := callSpecial? (.ref x) (Str.ofString "__len__")) ?_))
  refine PySem.W.special_fn X I hs (beq_iff_eq.mp hf) (wpAny_mono h (fun r s' hr => ?_) fun _ _ y => y)
  cases r with
  | int n u =>
    obtain ⟨⟨h0, h1⟩, hq⟩ := hr
    refine wpAny_bind (wpAny_holding (wpAny_pure (wpAny_bind (wpAny_letGo ?_))))
    have g1 : ¬ n < 0 := by omega
    have g2 : ¬ n ≥ 2 ^ 63 := by omega
    show wpAny _ _ (if n < 0 then _ else (if n ≥ 2 ^ 63 then _ else _)) _ _ _
    rw [if_neg g1, if_neg g2]
    exact wpAny_bind (wpAny_mkInt (wpAny_pure ⟨_, rfl, _, _, rfl, hq⟩))
  | _ => exact hr.elim
theorem own_len {Q : Value → Shared → Prop} (X : K.In s.heap) (I : PySem.W.InstAt s.heap x ox C od) (hs : PySem.W.findIn K (.ref C) "__len__" = some (some (.ref f))) (hf : PySem.W.isFn K (.ref f) = true)
    (h : wpAny (model prog w) A.in1 (call (.ref f) [.ref x]) (PySem.W.LenBack Q) E s) : wpAny (model prog w) A (call (.builtin "len") [.ref x]) Q E s :=
  Calls.call_function_entry PySem.kind_len PySem.plain_len PySem.entry_len (PySem.args_len1 _) (wpAny_mono (own_lenB X I hs hf h) (fun fin s' ⟨v, e, _, _, _, q⟩ => ⟨v, e, q⟩) fun _ _ y => y)
theorem own_repr {Q : Value → Shared → Prop} (hu : A.in1.units < cLine) (X : K.In s.heap) (I : PySem.W.InstAt s.heap x ox C od) (hs : PySem.W.findIn K (.ref C) "__repr__" = some (some (.ref f))) (hf : PySem.W.isFn K (.ref f) = true)
    (h : wpAny (model prog w) A.in1 (call (.ref f) [.ref x]) (PySem.W.StrBack Q) E s) : wpAny (model prog w) A (call (.builtin "repr") [.ref x]) Q E s := by
  refine Calls.call_function_entry PySem.F.kind_repr PySem.F.plain_repr PySem.F.entry_repr (PySem.F.args_repr1 (.ref x)) ?_
  unfold Builtin.«repr»
  refine wpAny_bind (m := oneArg "repr" _) (wpAny_pure (wpAny_bind (wpAny_cRoomFor hu (wpAny_bind (wpAny_bind (I.type.here ((PySem.W.looks_findIn X hs).here ?_)))))))
  show wpAny _ _ (if (some (Value.ref f)).isNone = true then _ else _) _ _ s
  rw [if_neg (show ¬ (some (Value.ref f)).isNone = true by simp)]
  refine wpAny_bind (m := callSpecialIfBound? (.ref x) (Str.ofString "__repr__") _) (PySem.W.ifBound_K X I hs hf (wpAny_mono h (fun r s' hr => ?_) fun _ _ z => z))
  cases r with
  | str a t =>
    refine wpAny_bind (wpAny_isInstance (typeIs_str _ _ _) isSubtype_str_str ?_)
    simp only [if_true]
    exact wpAny_pure ⟨_, rfl, hr⟩
  | _ => exact hr.elim
theorem own_truthy {Q : Bool → Shared → Prop} (X : K.In s.heap) (I : PySem.W.InstAt s.heap x ox C od) (hb : PySem.W.findIn K (.ref C) "__bool__" = some none) (hs : PySem.W.findIn K (.ref C) "__len__" = some (some (.ref f))) (hf : PySem.W.isFn K (.ref f) = true)
    (h : wpAny (model prog w) A.in1 (call (.ref f) [.ref x]) (PySem.W.LenBack fun v s' => ∀ n t, v = .int n t → Q (n != 0) s') E s) : wpAny (model prog w) A (truthy (.ref x)) Q E s := by
  have key : wpAny (model prog w) A (runValue (.builtin "len" ⟨[.ref x], []⟩)) (fun r s' => ∃ n t, r = .int n t ∧ Q (n != 0) s') E s := by
    refine wpAny_runValue (codeAny_builtin PySem.entry_len ?_)
    rw [Around.under_plainId PySem.plain_len _]
    exact wpAny_mono (own_lenB X I hs hf h) (fun fin s' ⟨v, e, n, t, ev, q⟩ => by subst e; exact ⟨n, t, ev, q n t ev⟩) fun _ _ e => e
  have no : ∀ {Q' : Option Value → Shared → Prop}, Q' none s → wpAny (model prog w) A (callSpecial? (.ref x) (Str.ofString "__bool__") []) Q' E s := fun q => by
    unfold callSpecial? specialOf
    exact wpAny_bind (wpAny_bind (I.type.here ((PySem.W.looks_findIn X hb).here (wpAny_pure q))))
  have sp : ∀ {Q' : Option Value → Shared → Prop}, Q' (some (.ref f)) s → wpAny (model prog w) A (specialOf (.ref x) "__len__") Q' E s := fun q => by
    unfold specialOf
    exact wpAny_bind (I.type.here ((PySem.W.looks_findIn X hs).here q))
  have fin : ∀ (r : Value) (s' : Shared), (∃ n t, r = .int n t ∧ Q (n != 0) s') → wpAny (model prog w) A (match r with
    | .int n _ => pure (n != 0)
    | _ => unsupported "internal:truth.len") Q E s' := fun r s' ⟨n, t, e, q⟩ => by subst e; exact wpAny_pure q
  unfold truthy
  first
    | refine wpAny_bind (no ?_)
    | refine wpAny_bind (wpAny_pure (wpAny_bind (no ?_)))
  first
    | refine wpAny_bind (sp ?_)
    | refine wpAny_bind (wpAny_pure (wpAny_bind (sp ?_)))
  first
    | exact wpAny_bind (wpAny_mono key (fun r s' h' => fin r s' h') fun _ _ e => e)
    | exact wpAny_bind (wpAny_pure (wpAny_bind (wpAny_mono key (fun r s' h' => fin r s' h') fun _ _ e => e)))
/-- bool(x), from its truth -/
theorem own_bool {v : Value} {Q : Value → Shared → Prop} (h : wpAny (model prog w) A.in1.in1 (truthy v) (fun b s' => Q (.bool b) s') E s) : wpAny (model prog w) A (call (.type "bool") [v]) Q E s := by
  refine callType_codes (T := "bool") (Bi := Builtin.«object.__init__») (Q₁ := fun r s₁ => ∃ b, r = Value.bool b ∧ Q r s₁) PySem.F.called_bool (PySem.F.typeCall_bool_1 _) PySem.F.entry_object_init ?_ ?_
  · refine codeAny_of_tree ?_
    show wpAny _ A.in1.in1 (do checkBuiltinCall "bool.__new__" ⟨[.type "bool", v], []⟩; again (.builtin "bool.__new__" ⟨[.type "bool", v], []⟩)) _ _ s
    refine wpAny_bind (wpAny_of_eq (PySem.F.newCall_bool_1 _) (wpAny_pure ⟨plainId_quiet (by decide +kernel) _, codeAny_builtin PySem.F.entry_bool_new ?_⟩))
    rw [Around.under_plainId (by decide +kernel) _]
    have f1 := PySem.F.conv_sub_bool
    have h2 : wpAny (model prog w) A.in1.in1 (truthy v) (fun b s' => ∃ b', Value.bool b = Value.bool b' ∧ Q (.bool b) s') E s := wpAny_mono h (fun b s' q => ⟨b, rfl, q⟩) fun _ _ z => z
    unfold Builtin.«bool.__new__»
    repeat (any_goals (first | assumption | (refine wpAny_bind (wpAny_mono h2 (fun b s' q => ?_) fun _ _ z => z)) | wp_step))
    all_goals first | exact q | skip
  · rintro obj s₁ ⟨b, rfl, hq⟩
    exact ⟨PySem.typeIs_bool _ _, PySem.F.args_object_init_2 _ _, object_init_meets PySem.F.called_bool.init.lookup PySem.F.called_bool.made (by decide) prog w A.in1 _ s₁ ⟨PySem.typeIs_bool _ _, rfl, hq⟩⟩
end
end DV

namespace DV
open PySem PySem.Spec PyProof.Rows L2

/-! ### special methods, properties, f-strings -/
inductive Dn where
  | len | repr | bool
  deriving DecidableEq, Repr
def Dn.nm : Dn → Str
  | .len => "len" | .repr => "repr" | .bool => "bool"
def Dn.sp : Dn → Str
  | .len => "__len__" | .repr => "__repr__" | .bool => "__len__"
/-- what is said of special methods: by name and class, the def; what a class has not -/
structure Dun where
  has : List (Str × List (Str × Nat))
  no : List (Str × List Str)
def Dun.get (u : Dun) (m C : Str) : Option Nat := ((u.has.lookup m).getD []).lookup C
def Dun.not (u : Dun) (m C : Str) : Bool := ((u.no.lookup m).getD []).contains C
structure DunOk (c : Cd) (u : Dun) : Prop where
  has : ∀ m C n, u.get m C = some n → ∃ f, PySem.W.findIn c.T.K (.ref (He.ga c.T.K C)) m = some (some (.ref f)) ∧ PySem.W.isFn c.T.K (.ref f) = true ∧ FnG c.T c.P c.w c.mg c.base c.k f [] (c.G n [])
  no : ∀ m C, u.not m C = true → PySem.W.findIn c.T.K (.ref (He.ga c.T.K C)) m = some none
def lenR (d : D) (st : Store) : R D := match d with
  | .int n => if 0 ≤ n ∧ n < 2 ^ 63 then .ok (.int n) st else .stuck
  | _ => .stuck
def strR (d : D) (st : Store) : R D := match d with
  | .str x => .ok (.str x) st
  | _ => .stuck
def booR (d : D) (st : Store) : R D := match d with
  | .int n => if 0 ≤ n ∧ n < 2 ^ 63 then .ok (.bl (n != 0)) st else .stuck
  | _ => .stuck
def boolP (d : D) (st : Store) : R D := match d with
  | .int i => .ok (.bl (i != 0)) st
  | .bl b => .ok (.bl b) st
  | .lst xs => .ok (.bl (!xs.isEmpty)) st
  | _ => .stuck
def dunP (G : Gam) (u : Dun) (b : Dn) (d : D) (st : Store) : R D := match d.insOf st with
  | some (C, _) => (match u.get b.sp C with
    | some n => (match b with
      | .len => (G n [] [d] st).bind lenR
      | .repr => (G n [] [d] st).bind strR
      | .bool => if u.not "__bool__" C then (G n [] [d] st).bind booR else .stuck)
    | none => .stuck)
  | none => (match b with
    | .len => lenP [d] st
    | .repr => reprP [d] st
    | .bool => boolP d st)
def dunL (G : Gam) (u : Dun) (b : Dn) (ds : List D) (st : Store) : R D := match ds with
  | [d] => dunP G u b d st
  | _ => .stuck
def shDun (G : Gam) (u : Dun) (b : Dn) (f : Sh) : Sh := shCB (dunL G u b) [f]
section
variable {c : Cd} {cm : Bool} {sc : Scope} {a b o : PySem.Expr} {es : List PySem.Expr} {fa fb fo : Sh} {fs fks : List Sh} {pos p2 apos : Pos}
theorem run_GA {X : Cx} {W : WX} {A : Around} {f : Addr} {kws : List Str} {g : Fn} {pins : List (Addr × Obj)} {σ : L2.St} {H : Hp} {s : Shared} {us zs : List Value} {vs ys : List V} {Q : VK} {fz : Hp} {ph : List Addr} {st : Store} {ds : List D}
    (hr : Room c.k A) (hg : A.guards = some []) (e0 : Env0 X.prog X.w X.K X.mg X.base A X.stack s H)
    (F : FnG c.T c.P c.w c.mg c.base c.k f kws g) (hX : Ctx c true sc X) (tk : Takes X W) (I : Inv X pins σ H s) (r : Vals vs us) (rz : Vals ys zs) (hl : ys.length = kws.length) (so : SOk c.T fz ph st H) (rd : Reps c.T.K c.T.L fz ph ds (vs ++ ys))
    (h : RP c.T W fz ph σ H Q (g ds st)) : wpAny (model X.prog X.w) A (call (.ref f) us (kws.zip zs)) (EP X pins σ Q) X.xe s := by
  rw [hX.prog, hX.w, hX.K, hX.mg, hX.base] at e0
  have go := F A X.stack s H us zs vs ys Q (fun cls d H' => W cls d σ H') fz ph st ds hr hg e0 r rz hl so rd (h.conv fun cls d H' q => q)
  rw [← hX.prog, ← hX.w] at go
  refine wpAny_call (codeAny_mono go fun r s' hq => ?_)
  cases r with
  | error e => exact tk e s' (XE.of_call I (fun _ _ _ h => h) hq)
  | ok fl =>
    cases fl with
    | ret u => exact I.after hq
    | _ => exact False.elim hq
def Dn.val : Dn → Value
  | .len => .builtin "len" | .repr => .builtin "repr" | .bool => .type "bool"
theorem rep1 {T : Pa} {fz : Hp} {ph : List Addr} {d : D} {vs : List V} (h : Reps T.K T.L fz ph [d] vs) : ∃ v, vs = [v] ∧ Rep T.K T.L fz ph d v := by
  simp only [Reps] at h
  obtain ⟨v, r, e, h1, h2⟩ := h
  exact ⟨v, by rw [e, h2], h1⟩
theorem bi_bool : BiOk c cm sc (.type "bool") (fun ds st => match ds with
  | [d] => boolP d st
  | _ => .stuck) := ⟨_, fun X hX => by have := (call_bool1 (X := X)).or call_boolL; rw [hX.K] at this; exact this, by
  intro W fz H ph σ st ds xs Q s r h
  cases ds with
  | nil => exact h.elim
  | cons d ds =>
    cases ds with
    | cons _ _ => exact h.elim
    | nil =>
      obtain ⟨v, e, rv⟩ := rep1 r
      subst e
      have h : RP c.T W fz ph σ H Q (boolP d st) := h
      unfold boolP at h
      split at h
      · rw [rep_int rv]; exact .inl (.inl ⟨_, rfl, bl_ok h s⟩)
      · rw [rep_bl rv]; exact .inl (.inr ⟨_, rfl, bl_ok h s⟩)
      · rename_i xs
        obtain ⟨a, vs, e1, ha, ra⟩ := rep_lst rv
        subst e1
        exact .inr ⟨a, vs, rfl, .inl (s.rd ha), by rw [ra.empty]; exact bl_ok h s⟩
      · exact h.elim⟩
/-- what comes back, looked at -/
theorem back_int {X : Cx} {pins : List (Addr × Obj)} {σ : L2.St} {Q : VK} {v : Value} {s' : Shared} (h : EP X pins σ (fun u H' => ∃ n, u = V.int n ∧ (0 ≤ n ∧ n < 2 ^ 63) ∧ Q (.int n) H') v s') : PySem.W.LenBack (EP X pins σ Q) v s' := by
  obtain ⟨u, H', I, r, n, e, b, q⟩ := h
  subst e
  obtain ⟨t, rfl⟩ := r
  exact ⟨b, .int n, H', I.tok _, ⟨_, rfl⟩, q⟩
theorem dun_call {u : Dun} {b : Dn} (g : DunOk c u) {X : Cx} {W : WX} (hX : Ctx c true sc X) (tk : Takes X W) {pins : List (Addr × Obj)} {σ : L2.St} {H2 fz2 : Hp} {ph2 : List Addr} {s2 : Shared} {st2 : Store} {ds : List D} {vs : List V} {us : List Value} {Q : VK}
    (I2 : Inv X pins σ H2 s2) (r : Vals vs us) (so2 : SOk c.T fz2 ph2 st2 H2) (rd : Reps c.T.K c.T.L fz2 ph2 ds vs) (q : RP c.T W fz2 ph2 σ H2 Q (dunL c.G u b ds st2)) : wpAny (model X.prog X.w) X.A (call b.val us) (EP X pins σ Q) X.xe s2 := by
  have r2 := (hX.calm rfl).2
  cases ds with
  | nil => exact q.elim
  | cons d ds =>
    cases ds with
    | cons _ _ => exact q.elim
    | nil =>
      have q : RP c.T W fz2 ph2 σ H2 Q (dunP c.G u b d st2) := q
      unfold dunP at q
      cases qi : d.insOf st2 with
      | none =>
        rw [qi] at q
        cases b with
        | len =>
          obtain ⟨r0, h1, h2⟩ := (bi_len (c := c) (cm := true) (sc := sc)).of
          exact h1 X hX pins s2 σ H2 vs us Q I2 r (h2 W fz2 H2 ph2 σ st2 [d] vs Q so2 rd q)
        | repr =>
          obtain ⟨r0, h1, h2⟩ := (bi_repr (c := c) (cm := true) (sc := sc)).of
          exact h1 X hX pins s2 σ H2 vs us Q I2 r (h2 W fz2 H2 ph2 σ st2 [d] vs Q so2 rd q)
        | bool =>
          obtain ⟨r0, h1, h2⟩ := (bi_bool (c := c) (cm := true) (sc := sc)).of
          exact h1 X hX pins s2 σ H2 vs us Q I2 r (h2 W fz2 H2 ph2 σ st2 [d] vs Q so2 rd q)
      | some cf =>
        obtain ⟨C, ff⟩ := cf
        rw [qi] at q
        dsimp only at q
        cases qn : u.get b.sp C with
        | none => rw [qn] at q; exact q.elim
        | some n =>
          rw [qn] at q
          dsimp only at q
          obtain ⟨f, hfi, hfn, F⟩ := g.has _ _ _ qn
          obtain ⟨v, ev, rv⟩ := rep1 rd
          subst ev
          obtain ⟨a1, dx1, vs1, e1, h1, _⟩ := insOf_ok so2 rv qi
          subst e1
          obtain rfl := Vals.ref1 r
          obtain ⟨mA, O, _⟩ := ins_get I2.hok h1
          obtain ⟨od, J, _⟩ := O.look
          rw [← hX.K] at hfi hfn J
          have rd1 : Reps c.T.K c.T.L fz2 ph2 [d] ([V.ref a1] ++ []) := by simp only [List.append_nil, Reps]; exact ⟨_, _, rfl, rv, rfl⟩
          cases b with
          | len =>
            have q : RP c.T W fz2 ph2 σ H2 Q ((c.G n [] [d] st2).bind lenR) := q
            refine own_len I2.kIn J hfi hfn (thn (run_GA (us := [.ref a1]) (vs := [.ref a1]) (zs := []) (ys := []) r2.in1 hX.gd I2.env0.in1 F hX tk I2 (.cons rfl .nil) .nil rfl so2 rd1 (RP.step (α := D) (Q' := fun u H' => ∃ n, u = V.int n ∧ (0 ≤ n ∧ n < 2 ^ 63) ∧ Q (.int n) H') q fun d3 st3 fz3 ph3 H3 u3 x3 s3 r3 q3 => ?_)) fun v s' hv => back_int hv)
            unfold lenR at q3
            split at q3
            · rename_i n
              rw [rep_int r3]
              by_cases z : 0 ≤ n ∧ n < 2 ^ 63
              · rw [if_pos z] at q3; exact ⟨n, rfl, z, int_ok q3 s3⟩
              · rw [if_neg z] at q3; exact q3.elim
            · exact q3.elim
          | repr =>
            have q : RP c.T W fz2 ph2 σ H2 Q ((c.G n [] [d] st2).bind strR) := q
            refine own_repr (by have := r2.un; show X.A.units + 1 < _; omega) I2.kIn J hfi hfn (thn (run_GA (us := [.ref a1]) (vs := [.ref a1]) (zs := []) (ys := []) r2.in1 hX.gd I2.env0.in1 F hX tk I2 (.cons rfl .nil) .nil rfl so2 rd1 (RP.step (α := D) (Q' := fun u H' => ∃ n, u = V.str n ∧ Q (.str n) H') q fun d3 st3 fz3 ph3 H3 u3 x3 s3 r3 q3 => ?_)) fun v s' hv => ?_)
            · unfold strR at q3
              split at q3
              · rw [rep_str r3]; exact ⟨_, rfl, str_ok q3 s3⟩
              · exact q3.elim
            · obtain ⟨w, H', I', rw', y, ew, qw⟩ := hv
              subst ew
              obtain ⟨t, rfl⟩ := rw'
              exact ⟨.str y, H', I', ⟨_, rfl⟩, qw⟩
          | bool =>
            have q : RP c.T W fz2 ph2 σ H2 Q (if u.not "__bool__" C = true then (c.G n [] [d] st2).bind booR else .stuck) := q
            by_cases zn : u.not "__bool__" C = true
            · rw [if_pos zn] at q
              have hno := g.no _ _ zn
              rw [← hX.K] at hno
              refine own_bool (own_truthy I2.kIn J hno hfi hfn (thn (run_GA (us := [.ref a1]) (vs := [.ref a1]) (zs := []) (ys := []) r2.in3 hX.gd I2.env0.in1.in1.in1 F hX tk I2 (.cons rfl .nil) .nil rfl so2 rd1 (RP.step (α := D) (Q' := fun u H' => ∃ n, u = V.int n ∧ (0 ≤ n ∧ n < 2 ^ 63) ∧ Q (.bl (n != 0)) H') q fun d3 st3 fz3 ph3 H3 u3 x3 s3 r3 q3 => ?_)) fun v s' hv => ?_))
              · unfold booR at q3
                split at q3
                · rename_i n
                  rw [rep_int r3]
                  by_cases z : 0 ≤ n ∧ n < 2 ^ 63
                  · rw [if_pos z] at q3; exact ⟨n, rfl, z, bl_ok q3 s3⟩
                  · rw [if_neg z] at q3; exact q3.elim
                · exact q3.elim
              · obtain ⟨w, H', I', rw', m, ew, bm, qw⟩ := hv
                subst ew
                obtain ⟨t, rfl⟩ := rw'
                refine ⟨bm, fun m' t' em => ?_⟩
                cases em
                exact ⟨.bl (m != 0), H', I'.tok _, rfl, qw⟩
            · rw [if_neg zn] at q; exact q.elim
theorem se_dun {u : Dun} (g : DunOk c u) (b : Dn) {pp : Pos} (hg : glB sc b.nm = true) (hm : c.mg b.nm = none) (ha : SE c true sc a fa) (hs : notStar a = true) : SE c true sc (.Call (.Name b.nm pp) [a] [] pos) (shDun c.G u b fa) := fun X W hX tk => ⟨fun pins s σ H Q I h => by
  have bt : bootBuiltins b.nm = some b.val := by cases b <;> rfl
  refine wpAny_Call_Name_kw (ld_blt I (glB_ok hX hg) (by rw [hX.mg]; exact hm) bt ?_ (by cases b <;> decide) (by cases b <;> decide))
  have sa : SA c true sc [a] [fa] := sa_cons ha sa_nil hs
  have go := (sa.2 X W hX tk).run pos pins s σ H (fun vs H1 => ∃ fz ph st ds, SOk c.T fz ph st H1 ∧ Reps c.T.K c.T.L fz ph ds vs ∧ RP c.T W fz ph σ H1 Q (dunL c.G u b ds st)) I (tA.step (k := fun ds _ st => dunL c.G u b ds st) h fun ds ρ st fz ph H1 us s e rr q => ⟨fz, ph, st, ds, s, rr, q⟩)
  have fin := thn go fun us s1 ⟨vs, H1, I1, r1, fz, ph, st, ds, so, rd, q⟩ => dun_call g hX tk I1 r1 so rd q
  have he := star_each (es := []) (env := X.env) hs
  cases b with
  | len => exact PyProof.Rows.callWith_builtin1 fin he (by rfl)
  | repr => exact PyProof.Rows.callWith_builtin1 fin he (by rfl)
  | bool => exact PyProof.Rows.callWith_type1 fin he (by rfl)⟩
end
end DV

namespace DV
open PySem PySem.Spec PyProof.Rows L2
/-! ### properties -/
/-- the class C has the name f as a property, its getter is the def number n -/
structure PrpOk (c : Cd) (f C : Str) (n : Nat) : Prop where
  ex : ∃ p g, Cls c.T.K (He.ga c.T.K C) ∧ PropOf c.T.K (He.ga c.T.K C) f p g ∧ FnG c.T c.P c.w c.mg c.base c.k g [] (c.G n [])
def prpN (tab : List (Str × Nat)) (d : D) (st : Store) : Option Nat := match d.insOf st with
  | some (C, _) => tab.lookup C
  | none => none
def shPrp (G : Gam) (tab : List (Str × Nat)) (f : Sh) : Sh := fun ρ st => (f ρ st).bind fun d st => match prpN tab d st with
  | some n => (G n [] [d] st).calm
  | none => .stuck
section
variable {c : Cd} {cm : Bool} {sc : Scope} {a b o : PySem.Expr} {es : List PySem.Expr} {fa fb fo : Sh} {fs fks : List Sh} {pos p2 apos : Pos}
theorem se_prp {f : Str} {tab : List (Str × Nat)} (g : ∀ C n, tab.lookup C = some n → PrpOk c f C n) (ho : SE c true sc o fo) (hs : notSuper o = true) : SE c true sc (.Attribute o f pos) (shPrp c.G tab fo) := fun X W hX tk => ⟨fun pins s σ H Q I h => by
  refine attr_of (base_plain hs) (thn ((ho X W hX tk).run pins s σ H (fun x H1 => ∃ fz ph st d n, SOk c.T fz ph st H1 ∧ Rep c.T.K c.T.L fz ph d x ∧ prpN tab d st = some n ∧ RP c.T W fz ph σ H1 Q (c.G n [] [d] st).calm) I (tE.step (k := fun d _ st => match prpN tab d st with
    | some n => (c.G n [] [d] st).calm
    | none => .stuck) h fun d ρ st fz ph H1 x s e rx q => ?_)) fun u s1 ⟨x, H1, I1, rx, fz, ph, st, d, n, so, rd, hn, q⟩ => ?_)
  · cases q1 : prpN tab d st with
    | none => rw [q1] at q; exact q.elim
    | some n => rw [q1] at q; exact ⟨fz, ph, st, d, n, s, rx, q1, q⟩
  · unfold prpN at hn
    cases qi : d.insOf st with
    | none => rw [qi] at hn; cases hn
    | some cf =>
      obtain ⟨C, ff⟩ := cf
      rw [qi] at hn
      obtain ⟨p, gA, hc, hp, F⟩ := (g C n hn).ex
      obtain ⟨a1, dx1, vs1, e1, h1, _⟩ := insOf_ok so rd qi
      subst e1
      obtain rfl : u = Value.ref a1 := rx
      rw [← hX.K] at hc hp h1
      obtain ⟨mA, O, _⟩ := ins_get I1.hok h1
      obtain ⟨od, J, _⟩ := O.look
      obtain ⟨rest, hrec⟩ := hp.rec_
      have I2 := I1.tok (s1.toks + 1)
      have hcl : (PySem.W.clsIn X.K (He.ga X.K C)).isSome = true := by
        obtain ⟨cd, e, _⟩ := PySem.W.any_some hc.hd
        rw [e]; rfl
      have g1 := PySem.W.plainGet_of (hc.get f)
      refine PySem.W.get_bind I1.kIn J g1.1 (PySem.W.findObj_data hcl hp.at_ hp.get hp.tak) g1.2 (wpAny_call (PySem.W.prop_get (s := { s1 with toks := s1.toks + 1 }) I1.kIn hrec ?_))
      have q' : RP c.T (fun _ _ _ _ => False) fz ph [] H1 Q (c.G n [] [d] st) := by
        cases e : c.G n [] [d] st with
        | ok d' st' => rw [e] at q; exact q
        | ex cc ff st' => rw [e] at q; exact q.elim
        | stuck => rw [e] at q; exact q.elim
      have e0 := I2.env0.in1
      rw [hX.prog, hX.w, hX.K, hX.mg, hX.base] at e0
      have go := F X.A.in1 X.stack { s1 with toks := s1.toks + 1 } H1 [.ref a1] [] [.ref a1] [] Q (fun _ _ _ => False) fz ph st [d] (hX.calm rfl).2.in1 hX.gd e0 (.cons rfl .nil) .nil rfl so (by simp only [List.append_nil, Reps]; exact ⟨_, _, rfl, rd, rfl⟩) q'
      rw [← hX.prog, ← hX.w] at go
      refine codeAny_mono go fun r s' hq => ?_
      cases r with
      | error er =>
        obtain ⟨_, B, H', cls, d, _, _, _, _, _, _, _, z⟩ := hq
        exact z.elim
      | ok fl =>
        cases fl with
        | ret u =>
          obtain ⟨v, H', I3, rv, q3⟩ := I2.after hq
          show wpAny _ _ (handedOut u) _ _ _
          rw [PySem.W.handedOut_of (handed_of rv)]
          exact wpAny_pure ⟨v, H', I3, rv, q3⟩
        | _ => exact False.elim hq⟩
/-! ### f-strings -/
def fmtP (d : D) (st : Store) : R D := match d with
  | .str y => if y.length ≤ sizeLine then .ok (.str y) st else .stuck
  | .int i => if i.natAbs.log2 < 1920 then .ok (.str (toString i)) st else .stuck
  | _ => .stuck
def shFmt (f : Sh) : Sh := fun ρ st => (f ρ st).bind fun d st => fmtP d st
theorem se_fmt (ha : SE c cm sc a fa) : SE c cm sc (.FormattedValue a (-1) none pos) (shFmt fa) := fun X W hX tk =>
  peI (pe_fmt (ha X W hX tk)) fun σ H Q h => tE.step (k := fun d _ st => fmtP d st) h fun d ρ st fz ph H1 x s e rx q => by
    unfold fmtP at q
    split at q
    · rename_i y
      rw [rep_str rx]
      by_cases z : y.length ≤ sizeLine
      · rw [if_pos z] at q; exact .inl ⟨y, rfl, z, str_ok q s⟩
      · rw [if_neg z] at q; exact q.elim
    · rename_i i
      rw [rep_int rx]
      by_cases z : i.natAbs.log2 < 1920
      · rw [if_pos z] at q; exact .inr ⟨i, rfl, z, str_ok q s⟩
      · rw [if_neg z] at q; exact q.elim
    · exact q.elim
def shJs : List Sh → Str → Sh
  | [], acc => fun _ st => .ok (.str acc) st
  | f :: fs, acc => fun ρ st => (f ρ st).bind fun d st => match d with
    | .str y => if (acc ++ y).length ≤ sizeLine then shJs fs (acc ++ y) ρ st else .stuck
    | _ => .stuck
/-- the parts of an f-string -/
inductive SJ (c : Cd) (cm : Bool) (sc : Scope) : List PySem.Expr → List Sh → Prop where
  | nil : SJ c cm sc [] []
  | cons {e : PySem.Expr} {f : Sh} {es : List PySem.Expr} {fs : List Sh} (h : SE c cm sc e f) (r : SJ c cm sc es fs) : SJ c cm sc (e :: es) (f :: fs)
theorem sj_pj {X : Cx} {W : WX} (hX : Ctx c cm sc X) (tk : Takes X W) (h : SJ c cm sc es fs) : PJ X es (fs.map (tE c.T W)) := by
  induction h with
  | nil => exact .nil
  | cons h r ih => exact .cons (h X W hX tk) ih
theorem js_ok {T : Pa} {W : WX} {σ : L2.St} {Q : Str → Hp → Prop} {Q' : VK} (hq : ∀ out H, Q' (.str out) H → Q out H) : ∀ (fs : List Sh) (acc : Str) (H fz : Hp) (ph : List Addr) (ρ : Env) (st : Store), SOk T fz ph st H → EOk T fz ph ρ σ → RP T W fz ph σ H Q' (shJs fs acc ρ st) → tJs (fs.map (tE T W)) acc σ H Q
  | [], acc, H, fz, ph, ρ, st, s, e, h => hq _ _ (str_ok (T := T) h s)
  | f :: fs, acc, H, fz, ph, ρ, st, s, e, h => by
    have h : RP T W fz ph σ H Q' ((f ρ st).bind fun d st => match d with
      | .str y => if (acc ++ y).length ≤ sizeLine then shJs fs (acc ++ y) ρ st else .stuck
      | _ => .stuck) := h
    refine ⟨fz, ph, ρ, st, s, e, RP.step (α := D) h fun d st1 fz1 ph1 H1 u x1 s1 r1 q1 => ?_⟩
    cases d <;> try exact q1.elim
    rename_i y
    have q1 : RP T W fz1 ph1 σ H1 Q' (if (acc ++ y).length ≤ sizeLine then shJs fs (acc ++ y) ρ st1 else .stuck) := q1
    by_cases z : (acc ++ y).length ≤ sizeLine
    · rw [if_pos z] at q1
      exact ⟨y, rep_str r1, z, js_ok hq fs (acc ++ y) H1 fz1 ph1 ρ st1 s1 (e.ext x1) q1⟩
    · rw [if_neg z] at q1; exact q1.elim
theorem se_fst {v1 v2 : PySem.Expr} (h : SJ c cm sc (v1 :: v2 :: es) fs) : SE c cm sc (.JoinedStr (v1 :: v2 :: es) pos) (shJs fs Str.empty) := fun X W hX tk =>
  peI (pe_joined (sj_pj hX tk h)) fun σ H Q ⟨fz, ph, ρ, st, s, e, q⟩ => js_ok (fun _ _ h => h) fs Str.empty H fz ph ρ st s e q
theorem se_fst1 (h : SE c cm sc a fa) : SE c cm sc (.JoinedStr [a] pos) fa := fun X W hX tk => pe_joined1 (h X W hX tk)
end
end DV

namespace DV
open PySem PySem.Spec PyProof.Rows L2
def okName (x : Str) : Bool := !(x == ("__debug__" : Str)) && !(x == ("__classdict__" : Str))
/-! ### raise C() -/
structure XcOk (c : Cd) (C : Str) : Prop where
  ex : ∃ (B newId initId : String) (bmB : List Value), ExcBaseFacts B newId initId bmB ∧ PySem.W.excIn c.T.K (He.ga c.T.K C) bmB newId = true
  at_ : c.mg C = some (.ref (He.ga c.T.K C))
  kp : PySem.W.keepIn c.T.K (.ref (He.ga c.T.K C)) = true
  su : PySem.W.subIn c.T.K (.ref (He.ga c.T.K C)) (.type "BaseException") = some true
  ty : PySem.W.typeIn c.T.K (.ref (He.ga c.T.K C)) = some (.type "type")
section
variable {c : Cd} {cm : Bool} {sc : Scope} {a b o : PySem.Expr} {es : List PySem.Expr} {fa fb fo : Sh} {fs fks : List Sh} {pos p2 apos : Pos}
theorem pmk_0 {X : Cx} {C : Addr} {bmB : List Value} {B newId initId : String} {x : Str} {p pos : Pos} (F : ExcBaseFacts B newId initId bmB) (q : PySem.W.excIn X.K C bmB newId = true) (gC : X.mg x = some (.ref C)) (kC : PySem.W.keepIn X.K (.ref C) = true)
    (r : Raises X (.ref C)) (hg : Gl X x) (hdb : (x == ("__debug__" : Str)) = false) : PMk X (.Call (.Name x p) [] [] pos) (fun _ H Q => Q (.ref C) none H) := by
  intro pins s σ H Q I h
  refine wpAny_Call_Name_kw (ld_glob I hg gC (PySem.W.callWith_K0 I.kIn kC ?_) hdb)
  show wpAny _ _ (call (.ref C) []) _ _ _
  obtain ⟨bm, N, nm, qn, bs, hdct, sn, sub, ab, col, dd, k0, k1, k2, k3, k5, mN, hC, hN, hni, T⟩ := exc_obj I.kIn q
  exact wpAny_call_exc_subT F T hC hN hni (fun h' e hm => mk_of I hm r h (I.hok.gone hm.new)) (by rw [sizeLine_eq]; exact Nat.zero_le _)
theorem ss_raise0 {x : Str} {p p' : Pos} (g : XcOk c x) (hg : glB sc x = true) (hd : (x == ("__debug__" : Str)) = false) : SS c sc (.Raise (some (.Call (.Name x p) [] [] p')) none pos) (fun ρ st => .ex x [] ρ st) := fun X W hX tk hp => by
  obtain ⟨B, newId, initId, bmB, F, q⟩ := g.ex
  refine psI (ps_raise (hX.ctx.calm rfl).1 tk (pmk_0 (C := He.ga c.T.K x) F (by rw [hX.ctx.K]; exact q) (by rw [hX.ctx.mg]; exact g.at_) (by rw [hX.ctx.K]; exact g.kp) (raises_own (by rw [hX.ctx.K]; exact g.su) (by rw [hX.ctx.K]; exact g.ty)) (glB_ok hX.ctx hg) hd)) fun De σ H ⟨fz, ph, ρ, st, s, e, h⟩ => ?_
  exact h fz ph σ H _ none (.refl _ _ _) s e ⟨rfl, .inl ⟨rfl, rfl⟩⟩

/-! ### an except suite -/
/-- the same law, an exception of the class cn at a in hand -/
abbrev Cd.hot (c : Cd) (a : Addr) (cn : Str) : Cd := { c with T := { c.T with hx := some (a, cn) } }
structure CtxX (c : Cd) (sc : Scope) (X : Cx) : Prop where
  ctx : Ctx c false sc X
  fn : ∀ x, X.fn x = true
def SSx (c : Cd) (sc : Scope) (s : Stmt) (f : Ss) : Prop := ∀ X W, CtxX c sc X → Takes X W → PS X s (tS c.T W f)
def SSxs (c : Cd) (sc : Scope) (s : List Stmt) (f : Ss) : Prop := ∀ X W, CtxX c sc X → Takes X W → PSs X s (tS c.T W f)
theorem ssx_nil : SSxs c sc [] .nx := fun X W hX tk => pssI pss_nil fun De σ H ⟨fz, ph, ρ, st, s, e, h⟩ => h fz ph σ H (.refl _ _ _) s e
theorem ssx_cons {s1 : Stmt} {ss : List Stmt} {f1 f2 : Ss} (h1 : SSx c sc s1 f1) (h2 : SSxs c sc ss f2) : SSxs c sc (s1 :: ss) (fun ρ st => (f1 ρ st).then f2) := fun X W hX tk =>
  pssI (pss_cons (h1 X W hX tk) (h2 X W hX tk)) fun De σ H ⟨fz, ph, ρ, st, s, e, h⟩ =>
    ⟨fz, ph, ρ, st, s, e, RQ.then (De' := { De with nx := tS c.T W f2 De }) h (fun ρ st fz' ph' σ' H' x s' e' q => ⟨fz', ph', ρ, st, s', e', q⟩) rfl rfl rfl⟩
theorem ssx_ret (ha : SE c false sc a fa) : SSx c sc (.Return (some a) pos) (fun ρ st => (fa ρ st).toS ρ .rt) := fun X W hX tk =>
  psI (ps_ret (ha X W hX.ctx tk)) fun De σ H h => tS.step (k := fun d _ st => .rt d st) h fun d ρ st fz ph H1 u s e r q => q fz ph H1 u (.refl _ _ _) s r
theorem ssx_set {i : Nat} {x : Str} {pp : Pos} (hi : c.N[i]? = some x) (hx : locB sc x = true) (ha : SE c false sc a fa) (hs : swaps a = false) : SSx c sc (.Assign [.Name x pp] a pos) (fun ρ st => (fa ρ st).toS ρ fun d st => gVar i d ρ st) := fun X W hX tk =>
  psI (ps_set (by rw [hX.ctx.N]; exact hX.ctx.nd) (by rw [hX.ctx.N]; exact hi) (by rw [hX.ctx.sc]; exact locB_ok hx) (ha X W hX.ctx tk) (swaps_no hs) (.inl (hX.fn x))) fun De σ H h =>
    tS.step (k := fun d ρ st => gVar i d ρ st) h fun d ρ st fz ph H1 u s e r q => q fz ph _ H1 (.refl _ _ _) s (e.set r)
theorem ssx_if {t : PySem.Expr} {ft : Sh} {ss ss2 : List Stmt} {f1 f2 : Ss} (ht : ST c false sc t ft) (ha : SSxs c sc ss f1) (hb : SSxs c sc ss2 f2) : SSx c sc (.If t ss ss2 pos) (stIf ft f1 f2) := fun X W hX tk =>
  psI (ps_if (ht X W hX.ctx tk) (ha X W hX tk) (hb X W hX tk)) fun De σ H h => tS.step (k := fun d ρ st => match d with
    | .bl true => f1 ρ st
    | .bl false => f2 ρ st
    | _ => .stuck) h fun d ρ st fz ph H1 x s e rx q => by
      cases d <;> try exact q.elim
      rename_i k
      refine ⟨k, rep_bl rx, ?_⟩
      cases k with
      | true => exact ⟨fz, ph, ρ, st, s, e, q⟩
      | false => exact ⟨fz, ph, ρ, st, s, e, q⟩

/-! ### isinstance(e, C) there -/
abbrev XK : Type := List ((Str × Str) × Bool)
/-- a class by its name: of the module, a built-in one -/
def ClsNm (c : Cd) (g : Str) (cv : Value) : Prop := (c.mg g = some cv ∧ cv = .ref (He.ga c.T.K g)) ∨ (c.mg g = none ∧ ∃ n, bootBuiltins g = some (.type n) ∧ cv = .type n ∧ g ≠ "__name__")
structure XkOk (c : Cd) (xk : XK) : Prop where
  of : ∀ cn g b, xk.lookup (cn, g) = some b → ExcC c.T.K (He.ga c.T.K cn) ∧ ∃ cv, ClsNm c g cv ∧ PySem.W.kitOne c.T.K (.ref (He.ga c.T.K cn)) cv = some b
def shXisi (xk : XK) (i : Nat) (g : Str) : Sh := fun ρ st => match ρ[i]? with
  | some (.exn cn _) => (match xk.lookup (cn, g) with
    | some b => .ok (.bl b) st
    | none => .stuck)
  | _ => .stuck
theorem se_xisi {xk : XK} (k : XkOk c xk) {i : Nat} {n g : Str} {p p1 p3 : Pos} (hh : c.T.hx.isSome = true) (hi : c.N[i]? = some n) (hv : visB sc n = true) (hg : glB sc g = true) (hI : glB sc "isinstance" = true) (hm : c.mg "isinstance" = none) (d1 : okName n = true) (d2 : okName g = true) :
    SE c false sc (.Call (.Name "isinstance" p) [.Name n p1, .Name g p3] [] pos) (shXisi xk i g) := fun X W hX tk => by
  have d1' : (n == ("__debug__" : Str)) = false ∧ (n == ("__classdict__" : Str)) = false := by unfold okName at d1; simpa using d1
  have d2' : (g == ("__debug__" : Str)) = false := by unfold okName at d2; simp at d2; simpa using d2.1
  cases ehx : c.T.hx with
  | none => rw [ehx] at hh; cases hh
  | some ac =>
    obtain ⟨a, cn⟩ := ac
    obtain ⟨X0, oe, pn, eX, hz, hf⟩ := hX.hx a cn ehx
    -- what is known of the name g
    have nm : ∀ (v : V) (cv : Value), ClsNm c g cv → RelV v cv → PE X (.Name g p3) (tC v) := fun v cv h r => by
      rcases h with ⟨h1, h2⟩ | ⟨h1, t, h2, h3, h4⟩
      · exact pe_glob (glB_ok hX hg) (by rw [hX.mg]; exact h1) r d2'
      · exact pe_bltn (glB_ok hX hg) (by rw [hX.mg]; exact h1) h2 (by rw [← h3]; exact r) h4 d2'
    have run : ∀ (v : V) (cv : Value) (b : Bool), ClsNm c g cv → RelV v cv → (∀ u, RelV v u → u = cv) → ExcC c.T.K (He.ga c.T.K cn) → PySem.W.kitOne c.T.K (.ref (He.ga c.T.K cn)) cv = some b →
        PE X (.Call (.Name "isinstance" p) [.Name n p1, .Name g p3] [] pos) (fun σ H Q => σ[i]? = some (some (.ref a)) ∧ Q (.bl b) H) := fun v cv b h r ru ec ek => by
      have pa : PA X [.Name n p1, .Name g p3] (tCons (tVar i) (tCons (tC v) tNil)) := pa_cons (pe_var (by rw [hX.N]; exact hi) (by rw [hX.sc]; exact visB_ok hv) d1'.1 d1'.2) (pa_cons (nm v cv h r) pa_nil)
      have cr : CallR X (.builtin "isinstance") (rIsE c.T.K (He.ga c.T.K cn) a) := by
        have eK := hX.K
        subst eX
        have eK : X0.K = c.T.K := eK
        rw [← eK] at ec hz ⊢
        exact call_isE ec hz hf
      refine peI (pe_callB cr (glB_ok hX hI) (by rw [hX.mg]; exact hm) rfl pa (by decide) (by decide)) fun σ H Q q => ?_
      exact ⟨_, q.1, v, cv, b, rfl, ru, ek, q.2⟩
    refine ⟨fun pins s σ H Q I h => ?_⟩
    obtain ⟨fz, ph, ρ, st, so, e, h⟩ := h
    unfold shXisi at h
    cases q : ρ[i]? with
    | none => rw [q] at h; exact h.elim
    | some sl =>
      rw [q] at h
      cases sl with
      | un => exact h.elim
      | v d => exact h.elim
      | exn cn' fs' =>
        have hl : i < σ.length := by rw [← e.len]; exact (List.getElem?_eq_some_iff.mp q).1
        have e1 := e.sl i _ σ[i] q (List.getElem?_eq_getElem hl)
        unfold SlOk at e1
        rw [ehx] at e1
        obtain ⟨e1, e2, e3⟩ := e1
        dsimp only at e1 e2
        subst e2
        have h : RP c.T W fz ph σ H Q (match xk.lookup (cn', g) with
          | some b => .ok (.bl b) st
          | none => .stuck) := h
        cases q2 : xk.lookup (cn', g) with
        | none => rw [q2] at h; exact h.elim
        | some b =>
          rw [q2] at h
          obtain ⟨k1, cv, k2, k3⟩ := k.of _ _ _ q2
          have fin : ∀ v, RelV v cv → (∀ u, RelV v u → u = cv) → wpAny (model X.prog X.w) X.A (eval (.Call (.Name "isinstance" p) [.Name n p1, .Name g p3] [] pos) X.env) (EP X pins σ Q) X.xe s := fun v r ru =>
            (run v cv b k2 r ru k1 k3).run pins s σ H Q I ⟨by rw [List.getElem?_eq_getElem hl, e1], bl_ok h so⟩
          rcases k2 with ⟨_, h2⟩ | ⟨_, t, _, h3, _⟩
          · subst h2
            exact fin (.ref _) rfl fun u r => r
          · subst h3
            exact fin (.ty t) rfl fun u r => r

/-! ### try: body, except C as n: suite -/
def clrS : Sl → Sl
  | .exn _ _ => .un
  | s => s
def clr (ρ : Env) : Env := ρ.map clrS
theorem clr_ok {T T' : Pa} (hK : T'.K = T.K) (hL : T'.L = T.L) {fz : Hp} {ph : List Addr} {ρ : Env} {σ : L2.St} (e : EOk T fz ph ρ σ) : EOk T' fz ph (clr ρ) σ where
  len := by unfold clr; rw [List.length_map]; exact e.len
  sl := fun i s u h1 h2 => by
    unfold clr at h1
    rw [List.getElem?_map] at h1
    cases q : ρ[i]? with
    | none => rw [q] at h1; cases h1
    | some s0 =>
      rw [q] at h1
      cases h1
      have z := e.sl i s0 u q h2
      cases s0 with
      | un => exact True.intro
      | exn a b => exact True.intro
      | v d =>
        obtain ⟨x, e1, r⟩ := z
        refine ⟨x, e1, ?_⟩
        rw [hK, hL]
        exact r
theorem EOk.setG {T : Pa} {fz : Hp} {ph : List Addr} {ρ : Env} {σ : L2.St} (e : EOk T fz ph ρ σ) {i : Nat} {s0 : Sl} {u0 : Option V} (h : SlOk T fz ph s0 u0) : EOk T fz ph (ρ.set i s0) (σ.set i u0) where
  len := by rw [List.length_set, List.length_set]; exact e.len
  sl := fun j s u h1 h2 => by
    by_cases q : i = j
    · subst q
      have l1 : i < ρ.length := by have := (List.getElem?_eq_some_iff.mp h1).1; simpa using this
      have l2 : i < σ.length := by have := e.len; omega
      rw [List.getElem?_set_self l1] at h1
      rw [List.getElem?_set_self l2] at h2
      cases h1
      cases h2
      exact h
    · rw [List.getElem?_set_ne q] at h1 h2
      exact e.sl j s u h1 h2
theorem SOk.pa {T T' : Pa} (hK : T'.K = T.K) (hL : T'.L = T.L) (ht : T'.tabs = T.tabs) {fz H : Hp} {ph : List Addr} {st : Store} (s : SOk T fz ph st H) : SOk T' fz ph st H := by
  obtain ⟨K, L, tb, hx⟩ := T
  obtain ⟨K', L', tb', hx'⟩ := T'
  cases hK; cases hL; cases ht
  exact ⟨s.sub, s.len, s.mem, s.nd, s.out, s.tb, s.nt⟩
def sufS (i : Nat) (r : RS) : RS := match r with
  | .nx ρ st => .nx ((clr ρ).set i .un) st
  | .rt d st => .rt d st
  | .bk ρ st => .bk ((clr ρ).set i .un) st
  | .ct ρ st => .ct ((clr ρ).set i .un) st
  | .ex _ _ _ _ => .stuck
  | .stuck => .stuck
def stTry (xm : XK) (g : Str) (i : Nat) (body su : Ss) : Ss := fun ρ st => match body ρ st with
  | .ex cn fs ρ' st' => (match fs, xm.lookup (cn, g) with
    | [], some true => sufS i (su ((clr ρ').set i (.exn cn [])) st')
    | fs, some false => .ex cn fs ρ' st'
    | _, _ => .stuck)
  | r => r
structure XmOk (c : Cd) (xm : XK) : Prop where
  of : ∀ cn g b, xm.lookup (cn, g) = some b → c.mg g = some (.ref (He.ga c.T.K g)) ∧ PySem.W.exmOne c.T.K (.ref (He.ga c.T.K cn)) (.ref (He.ga c.T.K g)) = some b
theorem ctx_tr {X : Cx} (hX : CtxS c sc X) (pn : List (Addr × Obj)) (xe : Value → Shared → Prop) : CtxS c sc (X.tr pn xe) :=
  ⟨⟨hX.ctx.prog, hX.ctx.w, hX.ctx.K, hX.ctx.mg, hX.ctx.base, hX.ctx.N, hX.ctx.nd, hX.ctx.sc, hX.ctx.gd, hX.ctx.un, hX.ctx.calm, hX.ctx.hn, fun a cn e => by rw [hX.ctx.hn rfl] at e; cases e⟩, hX.fn, hX.st, hX.fr, hX.bk⟩
theorem ctx_su {X : Cx} (hX : CtxS c sc X) {a : Addr} {cn : Str} {oe : Obj} (hz : Zc (.ref (He.ga c.T.K cn)) none oe) (hf : ∃ vs, oe.data = .fields vs) (pn : List (Addr × Obj)) : CtxX (c.hot a cn) sc (X.suite a ((a, oe) :: pn)) :=
  ⟨⟨hX.ctx.prog, hX.ctx.w, hX.ctx.K, hX.ctx.mg, hX.ctx.base, hX.ctx.N, hX.ctx.nd, hX.ctx.sc, hX.ctx.gd, hX.ctx.un, fun z => (by cases z), fun z => (by cases z), fun a' cn' e => by
    cases e
    exact ⟨X, oe, pn, rfl, hz, hf⟩⟩, hX.fn⟩
theorem ss_try {xm : XK} (k : XmOk c xm) {n g : Str} {i : Nat} {body suite : List Stmt} {b₀ : Stmt} {np pos' : Pos} {fb fs : Ss} (hi : c.N[i]? = some n) (hl : sc.names.lookup n == some .local) (hg : glB sc g = true) (hgd : (g == ("__debug__" : Str)) = false)
    (hk : ∃ cn b, xm.lookup (cn, g) = some b) (hb : SSs c sc body fb) (hsu : ∀ a cn, SSxs (c.hot a cn) sc (b₀ :: suite) fs) : SS c sc (.Try body [.ExceptHandler (some (.Name g np)) (some n) (b₀ :: suite) pos'] [] [] pos) (stTry xm g i fb fs) := fun X W hX tk hp => by
  obtain ⟨cn0, b0, hk0⟩ := hk
  obtain ⟨mg, _⟩ := k.of _ _ _ hk0
  have names : Names X g (.ref (He.ga c.T.K g)) := ⟨glB_ok hX.ctx hg, hgd, .inl (by rw [hX.ctx.mg]; exact mg)⟩
  refine psI (ps_try_as (i := i) (tb := fun W => tS c.T W fb) (ts := fun a cls d De σ H => ∃ cn, cls = .ref (He.ga c.T.K cn) ∧ d = none ∧ tS (c.hot a cn).T (fun _ _ _ _ => False) fs De σ H) hX.st hX.fr (by rw [hX.ctx.N]; exact hX.ctx.nd) (by rw [hX.ctx.N]; exact hi)
    (by unfold Env.kindOf; rw [hX.ctx.sc]; simpa using hl) names tk (fun W pn xe t p => hb (X.tr pn xe) W (ctx_tr hX pn xe) t p) ?_) ?_
  · intro a oe cls d pn hz hf
    refine ⟨fun pins s σ H D I h => ?_⟩
    obtain ⟨cn, ec, ed, h⟩ := h
    subst ec ed
    exact (hsu a cn _ (fun _ _ _ _ => False) (ctx_su hX hz hf pn) (fun u s' x => by
      obtain ⟨_, _, _, _, _, _, _, _, _, _, _, _, _, _, _, _, z⟩ := x
      exact z.elim)).run pins s σ H D I h
  · intro De σ H ⟨fz, ph, ρ, st, s, e, h⟩
    refine ⟨fz, ph, ρ, st, s, e, ?_⟩
    unfold stTry at h
    cases q : fb ρ st with
    | nx ρ1 st1 => rw [q] at h; exact h
    | rt d st1 => rw [q] at h; exact h
    | bk ρ1 st1 => rw [q] at h; exact h
    | ct ρ1 st1 => rw [q] at h; exact h
    | stuck => rw [q] at h; exact h
    | ex cn fl ρ1 st1 =>
      rw [q] at h
      intro fz1 ph1 σ1 H1 cls d x1 s1 e1 xo
      obtain ⟨xc, xd⟩ := xo
      subst xc
      dsimp only at h
      cases ql : xm.lookup (cn, g) with
      | none => rw [ql] at h; cases fl <;> exact h.elim
      | some b =>
        rw [ql] at h
        obtain ⟨_, hm⟩ := k.of _ _ _ ql
        refine ⟨b, by rw [hX.ctx.K]; exact hm, fun hb1 a na => ?_, fun hb1 => ?_⟩
        · subst hb1
          cases fl with
          | cons _ _ => exact h.elim
          | nil =>
            have h : RQ c.T W fz ph H De (sufS i (fs ((clr ρ1).set i (.exn cn [])) st1)) := h
            have dn : d = none := by
              rcases xd with ⟨_, z⟩ | ⟨z, _⟩
              · exact z
              · exact absurd rfl z
            refine ⟨cn, rfl, dn, fz1, ph1, _, st1, SOk.pa (T := c.T) (T' := (c.hot a cn).T) rfl rfl rfl s1, EOk.setG (clr_ok (T := c.T) (T' := (c.hot a cn).T) rfl rfl e1) (s0 := .exn cn []) ?_, ?_⟩
            · show SlOk (c.hot a cn).T fz1 ph1 (.exn cn []) (some (.ref a))
              exact ⟨rfl, rfl, rfl⟩
            · cases qs : fs ((clr ρ1).set i (.exn cn [])) st1 with
              | nx ρ2 st2 =>
                rw [qs] at h
                exact fun fz2 ph2 σ2 H2 x2 s2 e2 => h fz2 ph2 _ H2 (x1.trans x2) (SOk.pa (T := (c.hot a cn).T) (T' := c.T) rfl rfl rfl s2) (EOk.setG (clr_ok (T := (c.hot a cn).T) (T' := c.T) rfl rfl e2) (s0 := .un) (u0 := none) True.intro)
              | bk ρ2 st2 =>
                rw [qs] at h
                exact fun fz2 ph2 σ2 H2 x2 s2 e2 => h fz2 ph2 _ H2 (x1.trans x2) (SOk.pa (T := (c.hot a cn).T) (T' := c.T) rfl rfl rfl s2) (EOk.setG (clr_ok (T := (c.hot a cn).T) (T' := c.T) rfl rfl e2) (s0 := .un) (u0 := none) True.intro)
              | ct ρ2 st2 =>
                rw [qs] at h
                exact fun fz2 ph2 σ2 H2 x2 s2 e2 => h fz2 ph2 _ H2 (x1.trans x2) (SOk.pa (T := (c.hot a cn).T) (T' := c.T) rfl rfl rfl s2) (EOk.setG (clr_ok (T := (c.hot a cn).T) (T' := c.T) rfl rfl e2) (s0 := .un) (u0 := none) True.intro)
              | rt d2 st2 =>
                rw [qs] at h
                exact fun fz2 ph2 H2 u x2 s2 r2 => h fz2 ph2 H2 u (x1.trans x2) (SOk.pa (T := (c.hot a cn).T) (T' := c.T) rfl rfl rfl s2) r2
              | ex _ _ _ _ => rw [qs] at h; exact h.elim
              | stuck => rw [qs] at h; exact h.elim
        · subst hb1
          have h : RQ c.T W fz ph H De (.ex cn fl ρ1 st1) := by cases fl <;> exact h
          exact h fz1 ph1 σ1 H1 _ d x1 s1 e1 ⟨rfl, xd⟩
end
end DV

namespace DV
open PySem PySem.Spec PyProof.Rows L2
/-! ### a, b, c = x, y, z: three plain local names, stored from the right -/
theorem ps_par3 {X : Cx} {pos : Pos} {i j l : Nat} {x y z : Str} {a b c : PySem.Expr} {ta : TA} {px py pz pt : Pos} {kt k2 pt2} (hc : X.calm = true) (hN : X.N.Nodup) (hi : X.N[i]? = some x) (hj : X.N[j]? = some y) (hl : X.N[l]? = some z) (hij : i ≠ j) (hil : i ≠ l) (hjl : j ≠ l)
    (hx : X.env.scope.names.lookup x = some .local) (hy : X.env.scope.names.lookup y = some .local) (hz : X.env.scope.names.lookup z = some .local) (ha : PA X [a, b, c] ta)
    (hw : swappedStores [.Tuple [.Name x px, .Name y py, .Name z pz] kt pt] (.Tuple [a, b, c] k2 pt2) X.env = pure (some [x, y, z]))
    (hs : swapsWithSole [.Tuple [.Name x px, .Name y py, .Name z pz] kt pt] (.Tuple [a, b, c] k2 pt2) pos.line X.env = pure false := by rfl) :
    PS X (.Assign [.Tuple [.Name x px, .Name y py, .Name z pz] kt pt] (.Tuple [a, b, c] k2 pt2) pos) (fun D σ H => ta σ H fun vs H1 => ∃ v w u, vs = [v, w, u] ∧ D.nx (((σ.set i (some v)).set j (some w)).set l (some u)) H1) := by
  refine ⟨fun pins s σ H D I h => ?_⟩
  rw [exec_Assign_arm]
  refine wpAny_bind (wpAny_standAt ?_)
  rw [hs]
  refine wpAny_bind (wpAny_pure ?_)
  rw [if_neg (by decide)]
  refine wpAny_bind (Tuple_ (thn (ha.run _ pins s σ H _ I h) fun us s1 ⟨vs, H1, I1, r1, v, w, u, e1, q1⟩ => ?_))
  subst e1
  obtain ⟨u1, u2, u3, rfl, rv, rw', ru⟩ : ∃ u1 u2 u3, us = [u1, u2, u3] ∧ RelV v u1 ∧ RelV w u2 ∧ RelV u u3 := by
    cases r1 with
    | cons p q =>
      cases q with
      | cons p' q' =>
        cases q' with
        | cons p2 q2 =>
          cases q2
          exact ⟨_, _, _, rfl, p, p', p2⟩
  refine wpAny_newObj_type ?_ (by show 3 ≤ sizeLine; decide)
  have I2 : Inv X pins σ H1 { s1 with heap := s1.heap.push { cls := .type "tuple", data := .seq [u1, u2, u3].toArray } } := I1.kept (t' := s1.toks) fun b o e => Heap.get?_push_of_some _ e
  rw [hw]
  refine wpAny_bind (wpAny_pure ?_)
  show wpAny (model X.prog X.w) X.A (do rule "assign.swapped-stores"; let items ← unpackItems (.ref s1.heap.objs.size) 3 none; assignInOrder [fun v => bindName X.env z v, fun v => bindName X.env y v, fun v => bindName X.env x v] items.reverse; pure Flow.next) _ _ _
  refine wpAny_bind (wpAny_rule (wpAny_bind (unpackItems_tuple (items := #[u1, u2, u3]) (I.ok.hd hc) (IsTup.new s1.heap _) fun h' hx' => ?_)))
  have I3 := I2.kept (h' := h') (t' := s1.toks) fun b o e => hx' b o (Nat.ne_of_lt (Heap.lt_size e)) e
  show wpAny _ _ (assignInOrder [fun v => bindName X.env z v, fun v => bindName X.env y v, fun v => bindName X.env x v] [u3, u2, u1] >>= fun _ => pure Flow.next) _ _ _
  refine wpAny_bind (assignInOrder_cons (wpAny_bindName (store_ok I3 hN hl (.inl hz) ru (fun s2 I4 => ?_) (.inr hz))))
  refine assignInOrder_cons (wpAny_bindName (store_ok I4 hN hj (.inl hy) rw' (fun s3 I5 => ?_) (.inr hy)))
  refine assignInOrder_cons (wpAny_bindName (store_ok I5 hN hi (.inl hx) rv (fun s4 I6 => assignInOrder_nil (wpAny_pure ?_)) (.inr hx)))
  have e : ((σ.set l (some u)).set j (some w)).set i (some v) = ((σ.set i (some v)).set j (some w)).set l (some u) := by
    rw [List.set_comm _ _ (Ne.symm hij), List.set_comm _ _ (Ne.symm hil), List.set_comm _ _ (Ne.symm hjl)]
  rw [e] at I6
  exact ⟨_, H1, I6, q1⟩
def locS (sc : Scope) (x : Str) : Bool := match sc.names.lookup x with
  | some .local => true
  | _ => false
theorem locS_ok {sc : Scope} {x : Str} (h : locS sc x = true) : sc.names.lookup x = some .local := by
  unfold locS at h
  split at h
  · assumption
  · cases h
def par3C (sc : Scope) (x y z : Str) (px py pz : Pos) (a b c : PySem.Expr) : Bool :=
  locS sc x && locS sc y && locS sc z && (px.line == py.line) && (px.line == pz.line) && notStar a && notStar b && notStar c && !([x, y, z].eraseDups.length != 3) && !([a, b, c].all (foldedForSure 8)) && !([a, b, c].all (constantsAlone 8))
theorem par3_sw {c : Cd} {sc : Scope} {X : Cx} {x y z : Str} {px py pz pt pt2 : Pos} {kt k2} {a b d : PySem.Expr} (hX : CtxS c sc X) (h : par3C sc x y z px py pz a b d = true) :
    swappedStores [.Tuple [.Name x px, .Name y py, .Name z pz] kt pt] (.Tuple [a, b, d] k2 pt2) X.env = pure (some [x, y, z]) := by
  unfold par3C at h
  simp only [Bool.and_eq_true] at h
  obtain ⟨⟨⟨⟨⟨⟨⟨⟨⟨⟨h1, h2⟩, h3⟩, h4⟩, h5⟩, h6⟩, h7⟩, h8⟩, h9⟩, h10⟩, h11⟩ := h
  have kd : ∀ {x : Str}, locS sc x = true → X.env.kindOf x = some .local := fun {x} h => by
    unfold Env.kindOf
    rw [hX.ctx.sc]
    exact locS_ok h
  have e4 : py.line = px.line := (eq_of_beq h4).symm
  have e5 : pz.line = px.line := (eq_of_beq h5).symm
  have n0 : ∀ e : PySem.Expr, notStar e = true → (fun | .Starred .. => true | _ => false : PySem.Expr → Bool) e = false := fun e h => by cases e <;> first | rfl | exact Bool.noConfusion h
  have n1 : ([a, b, d].any fun | .Starred .. => true | _ => false) = false := by
    simp only [List.any_cons, List.any_nil, Bool.or_false, Bool.or_eq_false_iff]
    exact ⟨n0 a h6, n0 b h7, n0 d h8⟩
  unfold swappedStores
  simp only [hX.bk, List.length_cons, List.length_nil, List.head?_cons, Option.map_some, Option.getD_some]
  simp only [Expr.pos, kd h1, kd h2, kd h3, e4, e5, List.filterMap_cons, List.filterMap_nil, beq_self_eq_true, Bool.and_self, if_true]
  have g9 : ([x, y, z].eraseDups.length != [x, y, z].length) = false := by show ([x, y, z].eraseDups.length != 3) = false; revert h9; cases ([x, y, z].eraseDups.length != 3) <;> simp
  have g10 : ([a, b, d].all (foldedForSure 8)) = false := by revert h10; cases ([a, b, d].all (foldedForSure 8)) <;> simp
  have g11 : ([a, b, d].all (constantsAlone 8)) = false := by revert h11; cases ([a, b, d].all (constantsAlone 8)) <;> simp
  refine (if_neg (by decide)).trans ?_
  refine (if_neg (fun hh => Bool.noConfusion (n1.symm.trans hh))).trans ?_
  refine (if_neg (by rw [g9]; simp)).trans ?_
  rw [g10, g11]
  rfl
section
variable {c : Cd} {sc : Scope} {a b d : PySem.Expr} {fa fb fd : Sh} {pos : Pos}
def par3P (i j l : Nat) (fa fb fd : Sh) : Ss := fun ρ st => (fa ρ st).toS ρ fun v st => (fb ρ st).toS ρ fun w st => (fd ρ st).toS ρ fun u st => .nx (((ρ.set i (.v v)).set j (.v w)).set l (.v u)) st
theorem ss_par3 {i j l : Nat} {x y z : Str} {px py pz pt pt2 : Pos} {kt k2 : Nat} (hi : c.N[i]? = some x) (hj : c.N[j]? = some y) (hl : c.N[l]? = some z) (hij : i ≠ j) (hil : i ≠ l) (hjl : j ≠ l) (h : par3C sc x y z px py pz a b d = true) (hx : locS sc x = true) (hy : locS sc y = true) (hz : locS sc z = true)
    (hs : SA c true sc [a, b, d] [fa, fb, fd]) : SS c sc (.Assign [.Tuple [.Name x px, .Name y py, .Name z pz] kt pt] (.Tuple [a, b, d] k2 pt2) pos) (par3P i j l fa fb fd) := fun X W hX tk hp =>
  psI (ps_par3 (hX.ctx.calm rfl).1 (by rw [hX.ctx.N]; exact hX.ctx.nd) (by rw [hX.ctx.N]; exact hi) (by rw [hX.ctx.N]; exact hj) (by rw [hX.ctx.N]; exact hl) hij hil hjl (by rw [hX.ctx.sc]; exact locS_ok hx) (by rw [hX.ctx.sc]; exact locS_ok hy) (by rw [hX.ctx.sc]; exact locS_ok hz) (hs.2 X W hX.ctx tk) (par3_sw hX h)) fun De σ H ⟨fz, ph, ρ, st, s, e, h⟩ => by
    have h : RQ c.T W fz ph H De ((fa ρ st).toS ρ fun v st => (fb ρ st).toS ρ fun w st => (fd ρ st).toS ρ fun u st => .nx (((ρ.set i (.v v)).set j (.v w)).set l (.v u)) st) := h
    refine ⟨fz, ph, ρ, st, s, e, ?_⟩
    have ex : ∀ {cn fs st1 Q}, RQ c.T W fz ph H De (.ex cn fs ρ st1) → RPs c.T W fz ph σ H Q (.ex cn fs st1) := fun h => fun f p H' cls d x s' q => h f p σ H' cls d x s' (e.ext x) q
    show RPs c.T W fz ph σ H _ ((fa ρ st).bind fun d st => ((fb ρ st).bind fun e st => (((fd ρ st).bind fun g st => R.ok [g] st).bind fun ds st => .ok (e :: ds) st)).bind fun ds st => .ok (d :: ds) st)
    cases q : fa ρ st with
    | stuck => rw [q] at h; exact h.elim
    | ex c fs st1 => rw [q] at h; exact ex h
    | ok v st1 =>
      rw [q] at h
      have h : RQ c.T W fz ph H De ((fb ρ st1).toS ρ fun w st => (fd ρ st).toS ρ fun u st => .nx (((ρ.set i (.v v)).set j (.v w)).set l (.v u)) st) := h
      show RPs c.T W fz ph σ H _ (((fb ρ st1).bind fun e st => (((fd ρ st).bind fun g st => R.ok [g] st).bind fun ds st => .ok (e :: ds) st)).bind fun ds st => .ok (v :: ds) st)
      cases q2 : fb ρ st1 with
      | stuck => rw [q2] at h; exact h.elim
      | ex c fs st2 => rw [q2] at h; exact ex h
      | ok w st2 =>
        rw [q2] at h
        have h : RQ c.T W fz ph H De ((fd ρ st2).toS ρ fun u st => .nx (((ρ.set i (.v v)).set j (.v w)).set l (.v u)) st) := h
        show RPs c.T W fz ph σ H _ ((((fd ρ st2).bind fun g st => R.ok [g] st).bind fun ds st => .ok (w :: ds) st).bind fun ds st => .ok (v :: ds) st)
        cases q3 : fd ρ st2 with
        | stuck => rw [q3] at h; exact h.elim
        | ex c fs st3 => rw [q3] at h; exact ex h
        | ok u st3 =>
          rw [q3] at h
          have h : RQ c.T W fz ph H De (.nx (((ρ.set i (.v v)).set j (.v w)).set l (.v u)) st3) := h
          show RPs c.T W fz ph σ H _ (.ok [v, w, u] st3)
          intro f p H' us x s' r
          simp only [Reps] at r
          obtain ⟨v1, r', e1, r1, v2, r2', e2, r2, v3, r3', e3, r3, e4⟩ := r
          subst e1 e2 e3 e4
          exact ⟨_, _, _, rfl, h f p _ H' x s' ((((e.ext x).set r1).set r2).set r3)⟩
end
end DV

namespace DV
open PySem PySem.Spec PyProof.Rows L2

inductive BI where
  | len | isi | int | str | repr | abs | max | min | divmod | tuple | list | all | any
  deriving DecidableEq, Repr
inductive IE where
  | nop
  | var (i : Nat) | int (i : Int) | bl (b : Bool) | non | str (x : Str) | gl (x : Str) | ty (n : String)
  | bin (op : Operator) (a b : IE) | un (op : UnaryOp) (a : IE) | cmp (op : CmpOp) (a b : IE) | chain (op op' : CmpOp) (a b c : IE)
  | and (a b : IE) | or (a b : IE) | not (a : IE) | ife (t a b : IE)
  | tup (es : List IE) | lst (es : List IE) | lstM (es : List IE)
  | ix (a b : IE) | sl (a lo hi : IE)
  | bi (b : BI) (es : List IE)
  | call (n : Nat) (names : List Str) (es ks : List IE) | callS (n : Nat) (e : IE)
  | meth (m : Str) (o : IE) (names : List Str) (es ks : List IE)
  | op (o : Operator) (a b : IE)
  | attr (f : Str) (o : IE) | app (o a : IE) | idx (o a : IE) | dzip (a b : IE)
  | lc (mu : Bool) (it : IE) (t : Tgd) (ifs el : IE) (vs : List Nat)
  | tru (a : IE) | nott (a : IE) | andt (a b : IE) | ort (a b : IE)
  | prp (f : Str) (o : IE) | dun (b : Dn) (e : IE) | fmt (e : IE) | fst (es : List IE) | xisi (i : Nat) (g : Str)
  | itv (a : IE) | rng1 (es : List IE) | rng2 (es : List IE) | enm (es : List IE)

/-- the tables of a law -/
structure Tb where
  fns : List (Str × Nat)
  meths : List (Str × List (Str × Nat))
  ops : List (Operator × List (Str × Nat))
  cls : List Str
  flds : List Str
  gl : List (Str × D)
  kit : Kit
  kd : Str → D → Option D
  mus : List (Nat × Nat)
  prps : List (Str × List (Str × Nat))
  dun : Dun
  xk : XK
  xm : XK
  xc : List Str
def BI.fn (kit : Kit) : BI → List D → Store → R D
  | .len => lenP | .isi => isiP kit | .int => intP | .str => strP | .repr => reprP | .abs => absP | .max => maxP | .min => minP | .divmod => divmodP | .tuple => tupleP | .list => listP | .all => allP | .any => anyP
section
variable (tb : Tb) (G : Gam)
mutual
def den : IE → Sh
  | .nop => fun _ _ => .stuck
  | .var i => shVar i
  | .int i => shC (.int i)
  | .bl b => shC (.bl b)
  | .non => shC .non
  | .str x => shC (.str x)
  | .gl x => shC ((tb.gl.lookup x).getD .non)
  | .ty n => shC (.ty n)
  | .bin op a b => shBin op (den a) (den b)
  | .un op a => shUn op (den a)
  | .cmp op a b => shCmp op (den a) (den b)
  | .chain op op' a b c => shChain op op' (den a) (den b) (den c)
  | .and a b => shAnd (den a) (den b)
  | .or a b => shOr (den a) (den b)
  | .not a => shNot (den a)
  | .ife t a b => shIf (den t) (den a) (den b)
  | .tup es => shTup (dens es)
  | .lst es => shLst (dens es)
  | .lstM es => shLstM (dens es)
  | .ix a b => shIx tb.kd (den a) (den b)
  | .sl a lo hi => shSl (den a) (denO lo) (denO hi)
  | .bi b es => shCB (b.fn tb.kit) (dens es)
  | .call n names es ks => shCall G n names (dens es) (dens ks)
  | .callS n e => shCallS G n (den e)
  | .meth m o names es ks => shMeth G ((tb.meths.lookup m).getD []) m (den o) names (dens es) (dens ks)
  | .op o a b => shOp G ((tb.ops.lookup o).getD []) (den a) (den b)
  | .attr f o => shAttr tb.cls f (den o)
  | .app o a => shApp (den o) (den a)
  | .idx o a => shIdx (den o) (den a)
  | .dzip a b => shDictZip (den a) (den b)
  | .lc mu it t ifs el vs => if mu then shLcM (denI it) t (denT ifs) (den el) vs else shLc (denI it) t (denT ifs) (den el) vs
  | .tru a => shTru (den a)
  | .nott a => shNotB (den a)
  | .andt a b => shAndB (den a) (den b)
  | .ort a b => shOrB (den a) (den b)
  | .prp f o => shPrp G ((tb.prps.lookup f).getD []) (den o)
  | .dun b e => shDun G tb.dun b (den e)
  | .fmt e => shFmt (den e)
  | .fst es => shJs (dens es) Str.empty
  | .xisi i g => shXisi tb.xk i g
  | .itv _ => fun _ _ => .stuck
  | .rng1 _ => fun _ _ => .stuck
  | .rng2 _ => fun _ _ => .stuck
  | .enm _ => fun _ _ => .stuck
def dens : List IE → List Sh
  | [] => []
  | e :: es => den e :: dens es
def denO : IE → Option Sh
  | .nop => none
  | e => some (den e)
def denT : IE → Sh
  | .nop => shYes
  | e => den e
def denI : IE → Env → Store → R (List D)
  | .itv a => shItr (den a)
  | .rng1 es => shIts rng1D (dens es)
  | .rng2 es => shIts rng2D (dens es)
  | .enm es => shIts enumD (dens es)
  | _ => fun _ _ => .stuck
end
end
end DV

namespace DV
open PySem PySem.Spec PyProof.Rows L2
theorem all_plain {env : PySem.Env} {pos : Pos} : ∀ {es : List PySem.Expr}, notStars es = true → (backTo pos (starEach es env)).all (!·.1) = true
  | [], _ => rfl
  | e :: es, h => by
    have h' : notStar e = true ∧ notStars es = true := by simpa [notStars] using h
    rw [star_each h'.1]
    have ih := all_plain (env := env) (pos := pos) (es := es) h'.2
    show (true && (backTo pos (starEach es env)).all (!·.1)) = true
    rw [ih]; rfl
theorem kw_empty {env : PySem.Env} {pos : Pos} (kws : List Keyword) : (backToKw pos (keywordEach kws env)).isEmpty = kws.isEmpty := by
  cases kws with
  | nil => rfl
  | cons k ks => obtain ⟨a, b, c⟩ := k; rfl
theorem meth_eval {o : PySem.Expr} {m : Str} {apos pos : Pos} {es : List PySem.Expr} {kws : List Keyword} {names : List Str} (h : notSuper o = true) (hl : (apos.endLine == pos.line) = true) (hs : notStars es = true) (hk : kwB kws names = true)
    (hn : decide (es.length + kws.length + (if kws.isEmpty then 0 else 1) < 30) = true) : ∃ pl : PySem.Env → Sem Bool, ∀ env, eval (.Call (.Attribute o m apos) es kws pos) env = (do
      let ov ← eval o env
      standAt apos.atName
      let (f, first) ← holding [ov] (getMethod ov m (pl env))
      callWith pos f first (backTo pos (starEach es env)) (backToKw pos (keywordEach kws env))) := by
  refine ⟨fun env => (do return (← importBound o env).getD true), fun env => ?_⟩
  show (do
      let ov ← attributeBase o m env (eval o env)
      standAt apos.atName
      methodCall o m apos pos env ov (es.length + kws.length) (backTo pos (starEach es env)) (backToKw pos (keywordEach kws env))) = _
  rw [base_plain h]
  have hm : (backToKw pos (keywordEach kws env)).map (·.1) = names.map some := by
    rw [kw_map]
    exact eq_of_beq hk
  have few : methodCallForm (es.length + kws.length) (backTo pos (starEach es env)) (backToKw pos (keywordEach kws env)) = true := by
    unfold methodCallForm
    rw [all_plain hs, (names_all hm).1, kw_empty]
    simpa using hn
  have one : ∀ ov, methodCall o m apos pos env ov (es.length + kws.length) (backTo pos (starEach es env)) (backToKw pos (keywordEach kws env)) = (do
      let (f, first) ← holding [ov] (getMethod ov m (do return (← importBound o env).getD true))
      callWith pos f first (backTo pos (starEach es env)) (backToKw pos (keywordEach kws env))) := by
    intro ov
    unfold methodCall methodCallPos
    rw [few, hl]
    rfl
  simp only [one]

/-! ### from the text to the tables' words -/
def idxOf (N : List Str) (x : Str) : Option Nat := N.findIdx? (· == x)
theorem idx_ok {N : List Str} {x : Str} {i : Nat} (h : idxOf N x = some i) : N[i]? = some x := by
  obtain ⟨h1, h2, _⟩ := List.findIdx?_eq_some_iff_getElem.mp h
  rw [List.getElem?_eq_getElem h1]
  exact congrArg some (eq_of_beq h2)
def tyNames : List (Str × String) := [("int", "int"), ("str", "str"), ("bool", "bool"), ("tuple", "tuple"), ("list", "list"), ("dict", "dict")]
def biNames : List (Str × BI) := [("len", .len), ("isinstance", .isi), ("int", .int), ("str", .str), ("repr", .repr), ("abs", .abs), ("max", .max), ("min", .min), ("divmod", .divmod), ("tuple", .tuple), ("list", .list), ("all", .all), ("any", .any)]
def bNames : List Str := ["int", "str", "bool", "tuple", "list", "dict", "len", "isinstance", "repr", "abs", "max", "min", "divmod", "all", "any", "range", "enumerate", "zip"]
structure TbOk (c : Cd) (tb : Tb) : Prop where
  gl : ∀ x d, tb.gl.lookup x = some d → GlobOk c x d
  bn : ∀ x ∈ bNames, c.mg x = none
  kd : KdOk c tb.kd
  kit : KitOk c tb.kit
  fn : ∀ x n, tb.fns.lookup x = some n → GOk c x n
  me : ∀ m C n, ((tb.meths.lookup m).getD []).lookup C = some n → MOkD c m C n
  op : ∀ o C n, ((tb.ops.lookup o).getD []).lookup C = some n → OpOk c o C n
  at_ : ∀ f, tb.flds.contains f = true → AtOk c tb.cls f
  prp : ∀ f C n, ((tb.prps.lookup f).getD []).lookup C = some n → PrpOk c f C n
  dun : DunOk c tb.dun
  xk : XkOk c tb.xk
  xm : XmOk c tb.xm
  xc : ∀ C, tb.xc.contains C = true → XcOk c C
structure Fam where
  E : Scope → PySem.Expr → Option IE
  T : Scope → PySem.Expr → Option IE
  I : Scope → PySem.Expr → PySem.Expr → Option IE
def noNop : Option IE → Option IE
  | some .nop => none
  | r => r
def oPart (f : PySem.Expr → Option IE) : Option PySem.Expr → Option IE
  | none => some .nop
  | some e => noNop (f e)
section
variable (tb : Tb) (N : List Str)
def stName (sc : Scope) (x : Str) : Option IE :=
  if okName x then
    (if visB sc x then (idxOf N x).map .var
     else if glB sc x then (match tb.gl.lookup x with
       | some _ => some (.gl x)
       | none => (tyNames.lookup x).map .ty)
     else none)
  else none
def foldB (f : IE → IE → IE) : List IE → Option IE
  | [] => none
  | [a] => some a
  | a :: b :: r => (foldB f (b :: r)).map (f a)
def tgdOf : PySem.Expr → Option Tgd
  | .Name x _ => (idxOf N x).map .nm
  | .Tuple [.Name x _] _ _ => (idxOf N x).map fun i => .tp [i]
  | .Tuple [.Name x _, .Name y _] _ _ => (idxOf N x).bind fun i => (idxOf N y).map fun j => .tp [i, j]
  | .Tuple [.Name x _, .Name y _, .Name z _] _ _ => (idxOf N x).bind fun i => (idxOf N y).bind fun j => (idxOf N z).map fun k => .tp [i, j, k]
  | _ => none
def ownOf (scope : Scope) : List (Str × Nat) := scope.names.filterMap fun y => if y.2 == .local || y.2 == .cell then (idxOf N y.1).map fun i => (y.1, i) else none
def stIfs (F : Fam) (sc : Scope) : List PySem.Expr → Option IE
  | [] => some .nop
  | [t] => noNop (F.T sc t)
  | _ => none
/-- [elt for tg in iter if ..] -/
def stLc (F : Fam) (sc : Scope) (elt tg iter : PySem.Expr) (ifs : List PySem.Expr) (scope : Scope) (mu : Bool) : Option IE :=
  match tgdOf N tg, F.I sc tg iter, stIfs F (relS scope sc) ifs, F.E (relS scope sc) elt with
  | some t, some it, some fs, some el =>
    if blkC N sc scope (ownOf N scope) && tgdB scope (relS scope sc) N t tg && (t.all.all fun i => ((ownOf N scope).map (·.2)).contains i) && notSet iter then some (.lc mu it t fs el ((ownOf N scope).map (·.2))) else none
  | _, _, _, _ => none
def kwNames (kws : List Keyword) : List Str := kws.filterMap (·.arg)
def stCall (F : Fam) (sc : Scope) (x : Str) (es : List PySem.Expr) (kws : List Keyword) : Option IE :=
  if glB sc x && okName x then
    (match tb.fns.lookup x with
     | some n => (match es, kws with
       | [.Starred a _], [] => (F.E sc a).map (.callS n)
       | es, kws => (match es.mapM (F.E sc), (kws.map (·.value)).mapM (F.E sc) with
         | some is, some js => if notStars es && kwB kws (kwNames kws) then some (.call n (kwNames kws) is js) else none
         | _, _ => none))
     | none => (match biNames.lookup x with
       | some b => (match es with
         | a :: es' => (match (a :: es').mapM (F.E sc) with
           | some is => if notStars (a :: es') && kws.isEmpty && x != ("__name__" : Str) then some (.bi b is) else none
           | none => none)
         | [] => none)
       | none => none))
  else none
def stDz (F : Fam) (sc : Scope) (x y : Str) (a b : PySem.Expr) : Option IE :=
  if x == ("dict" : Str) && y == ("zip" : Str) && glB sc x && glB sc y && notStar a && notStar b then (match F.E sc a, F.E sc b with
    | some i, some j => some (.dzip i j)
    | _, _ => none) else none
def stDz0 (F : Fam) (sc : Scope) (x : Str) (es : List PySem.Expr) (kws : List Keyword) : Option IE := match es, kws with
  | [.Call (.Name y _) [a, b] [] _], [] => stDz F sc x y a b
  | _, _ => none
def stMeth (F : Fam) (sc : Scope) (o : PySem.Expr) (m : Str) (apos : Pos) (es : List PySem.Expr) (kws : List Keyword) (pos : Pos) : Option IE :=
  if notSuper o && (apos.endLine == pos.line) && notStars es && kwB kws (kwNames kws) && decide (es.length + kws.length + (if kws.isEmpty then 0 else 1) < 30) then
    (match F.E sc o, es.mapM (F.E sc), (kws.map (·.value)).mapM (F.E sc) with
     | some i, some is, some js => some (.meth m i (kwNames kws) is js)
     | _, _, _ => none)
  else none
def stOne (F : Fam) (sc : Scope) (o : PySem.Expr) (m : Str) (apos : Pos) (a : PySem.Expr) (pos : Pos) : Option IE :=
  if notSuper o && (apos.endLine == pos.line) && notStar a then (match F.E sc o, F.E sc a with
    | some i, some j => if m == ("append" : Str) then some (.app i j) else if m == ("index" : Str) then some (.idx i j) else none
    | _, _ => none) else none
def dnNames : List (Str × Dn) := [("len", .len), ("repr", .repr), ("bool", .bool)]
def stDun (F : Fam) (sc : Scope) (x : Str) (es : List PySem.Expr) (kws : List Keyword) : Option IE := match es, kws, dnNames.lookup x with
  | [a], [], some b => if !tb.dun.has.isEmpty && glB sc x && notStar a then (F.E sc a).map (.dun b) else none
  | _, _, _ => none
def stAt (F : Fam) (sc : Scope) (o : PySem.Expr) (f : Str) : Option IE := if notSuper o then (match tb.prps.lookup f with
  | some _ => (F.E sc o).map (.prp f)
  | none => if tb.flds.contains f then (F.E sc o).map (.attr f) else none) else none
def stPart (F : Fam) (sc : Scope) : PySem.Expr → Option IE
  | .Constant (.str x) _ _ => some (.str x)
  | .FormattedValue a (-1) none _ => (F.E sc a).map .fmt
  | _ => none
def stJs (F : Fam) (sc : Scope) : List PySem.Expr → Option IE
  | [a] => stPart F sc a
  | a :: b :: es => ((a :: b :: es).mapM (stPart F sc)).map .fst
  | [] => none
def isMut (p : Pos) : Bool := tb.mus.contains (p.line, p.col)
def stCmp (F : Fam) (sc : Scope) (a : PySem.Expr) (ops : List CmpOp) (bs : List PySem.Expr) : Option IE := match ops, bs with
  | [op], [b] => (match F.E sc a, F.E sc b with
    | some i, some j => if markB op b then some (.cmp op i j) else none
    | _, _ => none)
  | [op, op'], [b, d] => (match F.E sc a, F.E sc b, F.E sc d with
    | some i, some j, some k => if lastMarks [op, op'] [b, d] == false then some (.chain op op' i j k) else none
    | _, _, _ => none)
  | _, _ => none
def stE (F : Fam) (sc : Scope) : PySem.Expr → Option IE
  | .Name x _ => stName tb N sc x
  | .Constant (.int i) _ _ => some (.int i)
  | .Constant (.bool b) _ _ => some (.bl b)
  | .Constant .none _ _ => some .non
  | .Constant (.str x) _ _ => some (.str x)
  | .BinOp a op b _ => (match F.E sc a, F.E sc b with
    | some i, some j => (match tb.ops.lookup op with
      | some _ => some (.op op i j)
      | none => some (.bin op i j))
    | _, _ => none)
  | .UnaryOp op a _ => (F.E sc a).map fun i => if op = .Not then .not i else .un op i
  | .Compare a ops bs _ => stCmp F sc a ops bs
  | .BoolOp op es _ => (es.mapM (F.E sc)).bind (foldB (match op with | .And => IE.and | .Or => IE.or))
  | .IfExp t a b _ => (match F.T sc t, F.E sc a, F.E sc b with
    | some k, some i, some j => some (.ife k i j)
    | _, _, _ => none)
  | .Tuple es _ _ => if notStars es then (es.mapM (F.E sc)).map .tup else none
  | .List es p => if notStars es then (es.mapM (F.E sc)).map (if isMut tb p then .lstM else .lst) else none
  | .ListComp elt [⟨tg, iter, ifs, 0⟩] scope p => stLc N F sc elt tg iter ifs scope (isMut tb p)
  | .Subscript a (.Slice lo hi none _) _ => (match F.E sc a, oPart (F.E sc) lo, oPart (F.E sc) hi with
    | some i, some j, some k => some (.sl i j k)
    | _, _, _ => none)
  | .Subscript a b _ => if plainIxB b then (match F.E sc a, F.E sc b with
    | some i, some j => some (.ix i j)
    | _, _ => none) else none
  | .Attribute o f _ => stAt tb F sc o f
  | .Call (.Name x _) es kws _ => (match stDun tb F sc x es kws with
    | some r => some r
    | none => (match stDz0 F sc x es kws with
      | some r => some r
      | none => stCall tb F sc x es kws))
  | .JoinedStr es _ => stJs F sc es
  | .Call (.Attribute o m apos) [a] [] pos => (match stOne F sc o m apos a pos with
    | some r => some r
    | none => stMeth F sc o m apos [a] [] pos)
  | .Call (.Attribute o m apos) es kws pos => stMeth F sc o m apos es kws pos
  | _ => none
def stT (F : Fam) (sc : Scope) : PySem.Expr → Option IE
  | .Compare a ops bs _ => stCmp F sc a ops bs
  | .UnaryOp .Not a _ => (F.T sc a).map .nott
  | .BoolOp op es _ => (es.mapM (F.T sc)).bind (foldB (match op with | .And => IE.andt | .Or => IE.ort))
  | e => if plainTest e then (F.E sc e).map .tru else none
def isTup : PySem.Expr → Bool
  | .Tuple _ _ _ => true
  | _ => false
def stR (F : Fam) (sc : Scope) (tg : PySem.Expr) (x : Str) (es : List PySem.Expr) : Option IE := match es with
  | [a] => if x == ("range" : Str) && glB sc x && notStar a then (F.E sc a).map fun i => .rng1 [i]
      else if x == ("enumerate" : Str) && glB sc x && notStar a && isTup tg then (F.E sc a).map fun i => .enm [i]
      else none
  | [a, b] => if x == ("range" : Str) && glB sc x && notStar a && notStar b then (match F.E sc a, F.E sc b with
      | some i, some j => some (.rng2 [i, j])
      | _, _ => none)
      else none
  | _ => none
def stI (F : Fam) (sc : Scope) (tg e : PySem.Expr) : Option IE := match e with
  | .Call (.Name x _) es [] _ => (match stR F sc tg x es with
    | some r => some r
    | none => (F.E sc e).map .itv)
  | e => (F.E sc e).map .itv
def trF : Nat → Fam
  | 0 => ⟨fun _ _ => none, fun _ _ => none, fun _ _ _ => none⟩
  | n + 1 => ⟨stE tb N (trF n), stT (trF n), stI (trF n)⟩
end
end DV

namespace DV
open PySem PySem.Spec PyProof.Rows L2

structure FamOk (c : Cd) (tb : Tb) (F : Fam) : Prop where
  E : ∀ sc e ir, F.E sc e = some ir → SE c true sc e (den tb c.G ir)
  T : ∀ sc e ir, F.T sc e = some ir → ST c true sc e (den tb c.G ir)
  I : ∀ sc tg e ir, F.I sc tg e = some ir → SI c true sc tg e (denI tb c.G ir)
section
variable {c : Cd} {tb : Tb} {F : Fam} {sc : Scope} (t : TbOk c tb) (ok : FamOk c tb F)
theorem boot_ty : ∀ x n, tyNames.lookup x = some n → bootBuiltins x = some (.type n) ∧ x ∈ bNames ∧ x ≠ ("__name__" : Str) := by
  intro x n h
  have hm := lookup_mem h
  simp only [tyNames, List.mem_cons, Prod.mk.injEq, List.not_mem_nil, or_false] at hm
  rcases hm with ⟨rfl, rfl⟩ | ⟨rfl, rfl⟩ | ⟨rfl, rfl⟩ | ⟨rfl, rfl⟩ | ⟨rfl, rfl⟩ | ⟨rfl, rfl⟩ <;> exact ⟨by rfl, by decide, by decide⟩
def BI.isTy : BI → Option String
  | .int => some "int" | .str => some "str" | .tuple => some "tuple" | .list => some "list" | _ => none
theorem okName_ok {x : Str} (h : okName x = true) : (x == ("__debug__" : Str)) = false ∧ (x == ("__classdict__" : Str)) = false := by
  unfold okName at h
  simpa using h
include t in
theorem name_ok {x : Str} {p : Pos} {ir : IE} (h : stName tb c.N sc x = some ir) : SE c true sc (.Name x p) (den tb c.G ir) := by
  unfold stName at h
  by_cases ho : okName x = true
  · rw [if_pos ho] at h
    obtain ⟨h1, h2⟩ := okName_ok ho
    by_cases hv : visB sc x = true
    · rw [if_pos hv] at h
      obtain ⟨i, e1, e2⟩ := Option.map_eq_some_iff.mp h
      subst e2
      rw [den]
      exact se_var (idx_ok e1) hv h1 h2
    · rw [if_neg hv] at h
      by_cases hg : glB sc x = true
      · rw [if_pos hg] at h
        cases q : tb.gl.lookup x with
        | some d =>
          rw [q] at h
          cases h
          rw [den, q]
          exact se_glob hg (t.gl x d q) h1
        | none =>
          rw [q] at h
          obtain ⟨n, e1, e2⟩ := Option.map_eq_some_iff.mp h
          subst e2
          rw [den]
          obtain ⟨b1, b2, b3⟩ := boot_ty x n e1
          exact se_bty hg (t.bn x b2) b1 b3 h1
      · rw [if_neg hg] at h; cases h
  · rw [if_neg ho] at h; cases h
include ok in
theorem mapM_ok : ∀ {es : List PySem.Expr} {is : List IE}, notStars es = true → es.mapM (F.E sc) = some is → SA c true sc es (dens tb c.G is) ∧ (dens tb c.G is).length = es.length
  | [], is, _, h => by
    simp only [List.mapM_nil, Option.pure_def, Option.some.injEq] at h
    subst h
    rw [dens]
    exact ⟨sa_nil, rfl⟩
  | e :: es, is, hs, h => by
    have hs' : notStar e = true ∧ notStars es = true := by simpa [notStars] using hs
    simp only [List.mapM_cons, Option.pure_def, Option.bind_eq_bind, Option.bind_eq_some_iff, Option.some.injEq] at h
    obtain ⟨i, e1, js, e2, e3⟩ := h
    subst e3
    rw [dens]
    obtain ⟨a, b⟩ := mapM_ok hs'.2 e2
    exact ⟨sa_cons (ok.E sc e i e1) a hs'.1, by simp [b]⟩
include ok in
theorem kws_ok : ∀ {kws : List Keyword} {is : List IE}, kwB kws (kwNames kws) = true → (kws.map (·.value)).mapM (F.E sc) = some is → SK c true sc kws (kwNames kws) (dens tb c.G is)
  | [], is, _, h => by
    simp only [List.map_nil, List.mapM_nil, Option.pure_def, Option.some.injEq] at h
    subst h
    rw [dens]
    exact sk_nil
  | ⟨n, v, p⟩ :: kws, is, hk, h => by
    simp only [List.map_cons, List.mapM_cons, Option.pure_def, Option.bind_eq_bind, Option.bind_eq_some_iff, Option.some.injEq] at h
    obtain ⟨i, e1, js, e2, e3⟩ := h
    subst e3
    unfold kwB at hk
    have hk' := eq_of_beq hk
    cases n with
    | none =>
      exfalso
      have : (none : Option Str) ∈ (kwNames (⟨none, v, p⟩ :: kws)).map some := by rw [← hk']; simp
      simp at this
    | some n =>
      have e4 : kwNames (⟨some n, v, p⟩ :: kws) = n :: kwNames kws := rfl
      rw [e4] at hk' ⊢
      rw [dens]
      refine sk_cons (ok.E sc v i e1) (kws_ok ?_ e2)
      unfold kwB
      simp only [List.map_cons, List.cons.injEq] at hk'
      rw [hk'.2]
      exact beq_self_eq_true _
include t in
theorem bi_ok (b : BI) : (∃ n, b.isTy = some n ∧ BiOk c true sc (.type n) (b.fn tb.kit)) ∨ (b.isTy = none ∧ ∃ n, BiOk c true sc (.builtin n) (b.fn tb.kit) ∧ ∀ x, biNames.lookup x = some b → bootBuiltins x = some (.builtin n)) := by
  have key : ∀ x b', biNames.lookup x = some b' → (x, b') ∈ biNames := fun x b' h => lookup_mem h
  cases b
  case int => exact .inl ⟨_, rfl, bi_int⟩
  case str => exact .inl ⟨_, rfl, bi_str⟩
  case tuple => exact .inl ⟨_, rfl, bi_tuple⟩
  case list => exact .inl ⟨_, rfl, bi_list⟩
  case len => exact .inr ⟨rfl, "len", bi_len, fun x h => by have hm := key x _ h; simp [biNames] at hm; subst hm; rfl⟩
  case isi => exact .inr ⟨rfl, "isinstance", bi_isi t.kit, fun x h => by have hm := key x _ h; simp [biNames] at hm; subst hm; rfl⟩
  case repr => exact .inr ⟨rfl, "repr", bi_repr, fun x h => by have hm := key x _ h; simp [biNames] at hm; subst hm; rfl⟩
  case abs => exact .inr ⟨rfl, "abs", bi_abs, fun x h => by have hm := key x _ h; simp [biNames] at hm; subst hm; rfl⟩
  case max => exact .inr ⟨rfl, "max", bi_max, fun x h => by have hm := key x _ h; simp [biNames] at hm; subst hm; rfl⟩
  case min => exact .inr ⟨rfl, "min", bi_min, fun x h => by have hm := key x _ h; simp [biNames] at hm; subst hm; rfl⟩
  case divmod => exact .inr ⟨rfl, "divmod", bi_divmod, fun x h => by have hm := key x _ h; simp [biNames] at hm; subst hm; rfl⟩
  case all => exact .inr ⟨rfl, "all", bi_all, fun x h => by have hm := key x _ h; simp [biNames] at hm; subst hm; rfl⟩
  case any => exact .inr ⟨rfl, "any", bi_any, fun x h => by have hm := key x _ h; simp [biNames] at hm; subst hm; rfl⟩
theorem bi_boot {x : Str} {b : BI} (h : biNames.lookup x = some b) : x ∈ bNames ∧ ∀ n, b.isTy = some n → bootBuiltins x = some (.type n) := by
  have hm := lookup_mem h
  simp only [biNames, List.mem_cons, Prod.mk.injEq, List.not_mem_nil, or_false] at hm
  rcases hm with ⟨rfl, rfl⟩ | ⟨rfl, rfl⟩ | ⟨rfl, rfl⟩ | ⟨rfl, rfl⟩ | ⟨rfl, rfl⟩ | ⟨rfl, rfl⟩ | ⟨rfl, rfl⟩ | ⟨rfl, rfl⟩ | ⟨rfl, rfl⟩ | ⟨rfl, rfl⟩ | ⟨rfl, rfl⟩ | ⟨rfl, rfl⟩ | ⟨rfl, rfl⟩ <;>
    exact ⟨by decide, fun n e => by first | (cases e; rfl) | cases e⟩
include t ok in
theorem call_ok {x : Str} {es : List PySem.Expr} {kws : List Keyword} {ir : IE} {p pos : Pos} (h : stCall tb F sc x es kws = some ir) : SE c true sc (.Call (.Name x p) es kws pos) (den tb c.G ir) := by
  unfold stCall at h
  by_cases hg : (glB sc x && okName x) = true
  · rw [if_pos hg] at h
    obtain ⟨hg, ho⟩ := Bool.and_eq_true_iff.mp hg
    obtain ⟨h1, _⟩ := okName_ok ho
    cases q : tb.fns.lookup x with
    | some n =>
      rw [q] at h
      have g := t.fn x n q
      dsimp only at h
      split at h
      · rename_i a sp
        obtain ⟨i, e1, e2⟩ := Option.map_eq_some_iff.mp h
        subst e2
        rw [den]
        exact se_callS g hg (ok.E sc a i e1) h1
      · rename_i hne
        cases q1 : es.mapM (F.E sc) with
        | none => rw [q1] at h; cases h
        | some is =>
          cases q2 : (kws.map (·.value)).mapM (F.E sc) with
          | none => rw [q1, q2] at h; cases h
          | some js =>
            rw [q1, q2] at h
            have h : (if (notStars es && kwB kws (kwNames kws)) = true then some (IE.call n (kwNames kws) is js) else none) = some ir := h
            by_cases z : (notStars es && kwB kws (kwNames kws)) = true
            · rw [if_pos z] at h
              cases h
              obtain ⟨z1, z2⟩ := Bool.and_eq_true_iff.mp z
              rw [den]
              obtain ⟨sa, sl⟩ := mapM_ok ok z1 q1
              exact se_call g hg sa (kws_ok ok z2 q2) sl h1
            · rw [if_neg z] at h; cases h
    | none =>
      rw [q] at h
      cases q1 : biNames.lookup x with
      | none => rw [q1] at h; cases h
      | some b =>
        rw [q1] at h
        cases es with
        | nil => cases h
        | cons a es' =>
          have h : (match (a :: es').mapM (F.E sc) with
            | some is => if (notStars (a :: es') && kws.isEmpty && x != ("__name__" : Str)) = true then some (IE.bi b is) else none
            | none => none) = some ir := h
          cases q2 : (a :: es').mapM (F.E sc) with
          | none => rw [q2] at h; cases h
          | some is =>
            rw [q2] at h
            have h : (if (notStars (a :: es') && kws.isEmpty && x != ("__name__" : Str)) = true then some (IE.bi b is) else none) = some ir := h
            by_cases z : (notStars (a :: es') && kws.isEmpty && x != ("__name__" : Str)) = true
            · rw [if_pos z] at h
              cases h
              obtain ⟨za, zb⟩ := Bool.and_eq_true_iff.mp z
              obtain ⟨zc, zd⟩ := Bool.and_eq_true_iff.mp za
              have ek : kws = [] := by simpa using zd
              subst ek
              have hne : x ≠ ("__name__" : Str) := by simpa using zb
              obtain ⟨sa, _⟩ := mapM_ok ok zc q2
              obtain ⟨hb, hty⟩ := bi_boot q1
              rw [den]
              rcases bi_ok (sc := sc) t b with ⟨n, e1, B⟩ | ⟨_, n, B, hbt⟩
              · exact se_callTy B hg (t.bn x hb) (hty n e1) sa hne h1
              · exact se_callB B hg (t.bn x hb) (hbt x q1) sa hne h1
            · rw [if_neg z] at h; cases h
  · rw [if_neg hg] at h; cases h
include t ok in
theorem dz_ok {x : Str} {es : List PySem.Expr} {kws : List Keyword} {ir : IE} {p pos : Pos} (h : stDz0 F sc x es kws = some ir) : SE c true sc (.Call (.Name x p) es kws pos) (den tb c.G ir) := by
  unfold stDz0 at h
  split at h
  · rename_i y py a b pz
    unfold stDz at h
    by_cases z : (x == ("dict" : Str) && y == ("zip" : Str) && glB sc x && glB sc y && notStar a && notStar b) = true
    · rw [if_pos z] at h
      simp only [Bool.and_eq_true] at z
      obtain ⟨⟨⟨⟨⟨z1, z2⟩, z3⟩, z4⟩, z5⟩, z6⟩ := z
      have e1 := eq_of_beq z1
      have e2 := eq_of_beq z2
      subst e1 e2
      cases q1 : F.E sc a with
      | none => rw [q1] at h; cases h
      | some i =>
        cases q2 : F.E sc b with
        | none => rw [q1, q2] at h; cases h
        | some j =>
          rw [q1, q2] at h
          cases h
          rw [den]
          exact se_dictZip z3 (t.bn _ (by decide)) z4 (t.bn _ (by decide)) (ok.E sc a i q1) (ok.E sc b j q2) z5 z6
    · rw [if_neg z] at h; cases h
  · cases h
include t ok in
theorem meth_ok {o : PySem.Expr} {m : Str} {apos pos : Pos} {es : List PySem.Expr} {kws : List Keyword} {ir : IE} (h : stMeth F sc o m apos es kws pos = some ir) : SE c true sc (.Call (.Attribute o m apos) es kws pos) (den tb c.G ir) := by
  unfold stMeth at h
  by_cases z : (notSuper o && (apos.endLine == pos.line) && notStars es && kwB kws (kwNames kws) && decide (es.length + kws.length + (if kws.isEmpty then 0 else 1) < 30)) = true
  · rw [if_pos z] at h
    obtain ⟨za, z5⟩ := Bool.and_eq_true_iff.mp z
    obtain ⟨zb, z4⟩ := Bool.and_eq_true_iff.mp za
    obtain ⟨zc, z3⟩ := Bool.and_eq_true_iff.mp zb
    obtain ⟨z1, z2⟩ := Bool.and_eq_true_iff.mp zc
    cases q1 : F.E sc o with
    | none => rw [q1] at h; cases h
    | some i =>
      cases q2 : es.mapM (F.E sc) with
      | none => rw [q1, q2] at h; cases h
      | some is =>
        cases q3 : (kws.map (·.value)).mapM (F.E sc) with
        | none => rw [q1, q2, q3] at h; cases h
        | some js =>
          rw [q1, q2, q3] at h
          cases h
          rw [den]
          obtain ⟨sa, sl⟩ := mapM_ok ok z3 q2
          obtain ⟨pl, ht⟩ := meth_eval (m := m) z1 z2 z3 z4 z5
          exact se_meth (pl := pl) (fun C n hn => t.me m C n hn) (ok.E sc o i q1) sa (kws_ok ok z4 q3) sl ht
  · rw [if_neg z] at h; cases h
include ok in
theorem one_ok {o a : PySem.Expr} {m : Str} {apos pos : Pos} {ir : IE} (h : stOne F sc o m apos a pos = some ir) : SE c true sc (.Call (.Attribute o m apos) [a] [] pos) (den tb c.G ir) := by
  unfold stOne at h
  split at h
  · rename_i z
    simp only [Bool.and_eq_true] at z
    obtain ⟨⟨z1, z2⟩, z3⟩ := z
    cases q1 : F.E sc o with
    | none => rw [q1] at h; cases h
    | some i =>
      cases q2 : F.E sc a with
      | none => rw [q1, q2] at h; cases h
      | some j =>
        rw [q1, q2] at h
        have h : (if (m == ("append" : Str)) = true then some (IE.app i j) else if (m == ("index" : Str)) = true then some (IE.idx i j) else none) = some ir := h
        by_cases y1 : (m == ("append" : Str)) = true
        · rw [if_pos y1] at h
          cases h
          have e := eq_of_beq y1
          subst e
          rw [den]
          exact se_append (ok.E sc o i q1) (ok.E sc a j q2) z3 z1 z2
        · rw [if_neg y1] at h
          by_cases y2 : (m == ("index" : Str)) = true
          · rw [if_pos y2] at h
            cases h
            have e := eq_of_beq y2
            subst e
            rw [den]
            exact se_index (ok.E sc o i q1) (ok.E sc a j q2) z3 z1 z2
          · rw [if_neg y2] at h; cases h
  · cases h
include ok in
theorem cmp_ok {a : PySem.Expr} {ops : List CmpOp} {bs : List PySem.Expr} {pos : Pos} {ir : IE} (h : stCmp F sc a ops bs = some ir) : SE c true sc (.Compare a ops bs pos) (den tb c.G ir) ∧ ST c true sc (.Compare a ops bs pos) (den tb c.G ir) := by
  unfold stCmp at h
  split at h
  · rename_i op b
    cases q1 : F.E sc a with
    | none => rw [q1] at h; cases h
    | some i =>
      cases q2 : F.E sc b with
      | none => rw [q1, q2] at h; cases h
      | some j =>
        rw [q1, q2] at h
        have h : (if markB op b = true then some (IE.cmp op i j) else none) = some ir := h
        by_cases z : markB op b = true
        · rw [if_pos z] at h
          cases h
          rw [den]
          exact ⟨se_cmp (ok.E sc a i q1) (ok.E sc b j q2) z, st_cmp (ok.E sc a i q1) (ok.E sc b j q2) z⟩
        · rw [if_neg z] at h; cases h
  · rename_i op op' b d
    cases q1 : F.E sc a with
    | none => rw [q1] at h; cases h
    | some i =>
      cases q2 : F.E sc b with
      | none => rw [q1, q2] at h; cases h
      | some j =>
        cases q3 : F.E sc d with
        | none => rw [q1, q2, q3] at h; cases h
        | some k =>
          rw [q1, q2, q3] at h
          have h : (if (lastMarks [op, op'] [b, d] == false) = true then some (IE.chain op op' i j k) else none) = some ir := h
          by_cases z : (lastMarks [op, op'] [b, d] == false) = true
          · rw [if_pos z] at h
            cases h
            rw [den]
            exact ⟨se_chain (ok.E sc a i q1) (ok.E sc b j q2) (ok.E sc d k q3) (eq_of_beq z), st_chain (ok.E sc a i q1) (ok.E sc b j q2) (ok.E sc d k q3) (eq_of_beq z)⟩
          · rw [if_neg z] at h; cases h
  · cases h
theorem noNop_ok {r : Option IE} {ir : IE} (h : noNop r = some ir) : r = some ir ∧ ir ≠ .nop := by
  unfold noNop at h
  split at h
  · cases h
  · rename_i hn
    subst h
    exact ⟨rfl, fun e => hn (by rw [e])⟩
theorem denO_some {ir : IE} (h : ir ≠ .nop) : denO tb c.G ir = some (den tb c.G ir) := by
  cases ir <;> first | exact absurd rfl h | (rw [denO]; intro e; cases e)
theorem denT_some {ir : IE} (h : ir ≠ .nop) : denT tb c.G ir = den tb c.G ir := by
  cases ir <;> first | exact absurd rfl h | (rw [denT]; intro e; cases e)
include ok in
theorem part_ok {o : Option PySem.Expr} {ir : IE} (h : oPart (F.E sc) o = some ir) : SO c true sc o (denO tb c.G ir) := by
  cases o with
  | none => cases h; rw [denO]; exact True.intro
  | some e =>
    obtain ⟨h1, h2⟩ := noNop_ok h
    rw [denO_some h2]
    exact ok.E sc e ir h1
include ok in
theorem ifs_ok {ifs : List PySem.Expr} {ir : IE} (h : stIfs F sc ifs = some ir) : SIfs c sc ifs (denT tb c.G ir) := by
  unfold stIfs at h
  split at h
  · cases h; rw [denT]; rfl
  · obtain ⟨h1, h2⟩ := noNop_ok h
    rw [denT_some h2]
    exact ok.T sc _ ir h1
  · cases h
include ok in
theorem lcOk_of {elt tg iter : PySem.Expr} {ifs : List PySem.Expr} {scope : Scope} {mu : Bool} {ir : IE} (h : stLc c.N F sc elt tg iter ifs scope mu = some ir) :
    ∃ it t' fs el vs, ir = .lc mu it t' fs el vs ∧ vs = (ownOf c.N scope).map (·.2) ∧ LcOk c sc scope tg iter elt ifs (denI tb c.G it) t' (denT tb c.G fs) (den tb c.G el) (ownOf c.N scope) := by
  unfold stLc at h
  cases q1 : tgdOf c.N tg with
  | none => rw [q1] at h; cases h
  | some t' =>
    cases q2 : F.I sc tg iter with
    | none => rw [q1, q2] at h; cases h
    | some it =>
      cases q3 : stIfs F (relS scope sc) ifs with
      | none => rw [q1, q2, q3] at h; cases h
      | some fs =>
        cases q4 : F.E (relS scope sc) elt with
        | none => rw [q1, q2, q3, q4] at h; cases h
        | some el =>
          rw [q1, q2, q3, q4] at h
          have h : (if (blkC c.N sc scope (ownOf c.N scope) && tgdB scope (relS scope sc) c.N t' tg && (t'.all.all fun i => ((ownOf c.N scope).map (·.2)).contains i) && notSet iter) = true then some (IE.lc mu it t' fs el ((ownOf c.N scope).map (·.2))) else none) = some ir := h
          split at h
          · rename_i z
            cases h
            simp only [Bool.and_eq_true] at z
            obtain ⟨⟨⟨z1, z2⟩, z3⟩, z4⟩ := z
            exact ⟨it, t', fs, el, _, rfl, rfl, ⟨ok.I sc tg iter it q2, z1, z2, ifs_ok ok q3, ok.E _ _ el q4, z3, z4⟩⟩
          · cases h
include ok in
theorem lc_ok {elt tg iter : PySem.Expr} {ifs : List PySem.Expr} {scope : Scope} {mu : Bool} {ir : IE} {pos : Pos} (h : stLc c.N F sc elt tg iter ifs scope mu = some ir) : SE c true sc (.ListComp elt [⟨tg, iter, ifs, 0⟩] scope pos) (den tb c.G ir) := by
  obtain ⟨it, t', fs, el, vs, e1, e2, L⟩ := lcOk_of ok h
  subst e1 e2
  rw [den]
  cases mu with
  | true => rw [if_pos rfl]; exact se_lcM L
  | false => rw [if_neg Bool.false_ne_true]; exact se_lc L
theorem foldB_ok {P : PySem.Expr → IE → Prop} {R : List PySem.Expr → IE → Prop} {f : IE → IE → IE} (h1 : ∀ a i, P a i → R [a] i) (h2 : ∀ a b es i j, P a i → R (b :: es) j → R (a :: b :: es) (f i j)) {g : PySem.Expr → Option IE} (hg : ∀ e i, g e = some i → P e i) :
    ∀ {es : List PySem.Expr} {ir : IE}, (es.mapM g).bind (foldB f) = some ir → R es ir
  | [], ir, h => by simp [foldB] at h
  | [a], ir, h => by
    simp only [List.mapM_cons, List.mapM_nil, Option.pure_def, Option.bind_eq_bind, Option.bind_eq_some_iff, Option.some.injEq] at h
    obtain ⟨is, ⟨i, e1, js, e2, e3⟩, e4⟩ := h
    subst e2 e3
    simp only [foldB, Option.some.injEq] at e4
    subst e4
    exact h1 a i (hg a i e1)
  | a :: b :: es, ir, h => by
    simp only [List.mapM_cons, Option.pure_def, Option.bind_eq_bind, Option.bind_eq_some_iff, Option.some.injEq] at h
    obtain ⟨is, ⟨i, e1, js, ⟨j, e2, ks, e3, e4⟩, e5⟩, e6⟩ := h
    subst e4 e5
    simp only [foldB, Option.map_eq_some_iff] at e6
    obtain ⟨r, e7, e8⟩ := e6
    subst e8
    refine h2 a b es i r (hg a i e1) (foldB_ok h1 h2 hg (es := b :: es) ?_)
    simp only [List.mapM_cons, Option.pure_def, Option.bind_eq_bind]
    rw [e2, e3]
    exact e7
include t ok in
theorem at_ok {o : PySem.Expr} {f : Str} {pos : Pos} {ir : IE} (h : stAt tb F sc o f = some ir) : SE c true sc (.Attribute o f pos) (den tb c.G ir) := by
  unfold stAt at h
  split at h
  · rename_i z
    cases q : tb.prps.lookup f with
    | some tab =>
      rw [q] at h
      obtain ⟨i, e1, e2⟩ := Option.map_eq_some_iff.mp h
      subst e2
      rw [den]
      exact se_prp (t.prp f) (ok.E sc _ i e1) z
    | none =>
      rw [q] at h
      dsimp only at h
      split at h
      · rename_i z2
        obtain ⟨i, e1, e2⟩ := Option.map_eq_some_iff.mp h
        subst e2
        rw [den]
        exact se_attr (t.at_ _ z2) (ok.E sc _ i e1) z
      · cases h
  · cases h
include t ok in
theorem dun_ok {x : Str} {es : List PySem.Expr} {kws : List Keyword} {ir : IE} {p pos : Pos} (h : stDun tb F sc x es kws = some ir) : SE c true sc (.Call (.Name x p) es kws pos) (den tb c.G ir) := by
  unfold stDun at h
  split at h
  · rename_i a b hb
    split at h
    · rename_i z
      simp only [Bool.and_eq_true] at z
      obtain ⟨⟨z1, z2⟩, z3⟩ := z
      obtain ⟨i, e1, e2⟩ := Option.map_eq_some_iff.mp h
      subst e2
      rw [den]
      have hm := lookup_mem hb
      simp only [dnNames, List.mem_cons, Prod.mk.injEq, List.not_mem_nil, or_false] at hm
      rcases hm with ⟨e, e'⟩ | ⟨e, e'⟩ | ⟨e, e'⟩ <;> subst e e'
      · exact se_dun t.dun .len z2 (t.bn _ (by decide)) (ok.E sc a i e1) z3
      · exact se_dun t.dun .repr z2 (t.bn _ (by decide)) (ok.E sc a i e1) z3
      · exact se_dun t.dun .bool z2 (t.bn _ (by decide)) (ok.E sc a i e1) z3
    · cases h
  · cases h
include ok in
theorem part_js {e : PySem.Expr} {ir : IE} (h : stPart F sc e = some ir) : SE c true sc e (den tb c.G ir) := by
  unfold stPart at h
  split at h
  · cases h; rw [den]; exact se_str
  · obtain ⟨i, e1, e2⟩ := Option.map_eq_some_iff.mp h
    subst e2
    rw [den]
    exact se_fmt (ok.E sc _ i e1)
  · cases h
include ok in
theorem parts_js : ∀ {es : List PySem.Expr} {is : List IE}, es.mapM (stPart F sc) = some is → SJ c true sc es (dens tb c.G is)
  | [], is, h => by
    simp only [List.mapM_nil, Option.pure_def, Option.some.injEq] at h
    subst h
    rw [dens]
    exact .nil
  | e :: es, is, h => by
    simp only [List.mapM_cons, Option.pure_def, Option.bind_eq_bind, Option.bind_eq_some_iff, Option.some.injEq] at h
    obtain ⟨i, e1, js, e2, e3⟩ := h
    subst e3
    rw [dens]
    exact .cons (part_js ok e1) (parts_js e2)
include ok in
theorem js_ok' {es : List PySem.Expr} {pos : Pos} {ir : IE} (h : stJs F sc es = some ir) : SE c true sc (.JoinedStr es pos) (den tb c.G ir) := by
  unfold stJs at h
  split at h
  · exact se_fst1 (part_js ok h)
  · obtain ⟨is, e1, e2⟩ := Option.map_eq_some_iff.mp h
    subst e2
    rw [den]
    exact se_fst (parts_js ok e1)
  · cases h
include t ok in
theorem stE_ok {e : PySem.Expr} {ir : IE} (h : stE tb c.N F sc e = some ir) : SE c true sc e (den tb c.G ir) := by
  unfold stE at h
  split at h
  · exact name_ok t h
  · cases h; rw [den]; exact se_int
  · cases h; rw [den]; exact se_bl
  · cases h; rw [den]; exact se_non
  · cases h; rw [den]; exact se_str
  · rename_i a op b p
    cases q1 : F.E sc a with
    | none => rw [q1] at h; cases h
    | some i =>
      cases q2 : F.E sc b with
      | none => rw [q1, q2] at h; cases h
      | some j =>
        rw [q1, q2] at h
        have h : (match tb.ops.lookup op with
          | some _ => some (IE.op op i j)
          | none => some (IE.bin op i j)) = some ir := h
        cases q3 : tb.ops.lookup op with
        | some tab =>
          rw [q3] at h
          cases h
          rw [den]
          exact se_op (fun C n hn => t.op op C n hn) (ok.E sc a i q1) (ok.E sc b j q2)
        | none =>
          rw [q3] at h
          cases h
          rw [den]
          exact se_bin (ok.E sc a i q1) (ok.E sc b j q2)
  · rename_i op a p
    obtain ⟨i, e1, e2⟩ := Option.map_eq_some_iff.mp h
    subst e2
    by_cases z : op = .Not
    · subst z
      rw [if_pos rfl, den]
      exact se_not (ok.E sc a i e1)
    · rw [if_neg z, den]
      exact se_un (ok.E sc a i e1)
  · exact (cmp_ok ok h).1
  · rename_i op es p
    cases op with
    | And => exact foldB_ok (P := fun e i => SE c true sc e (den tb c.G i)) (R := fun es i => SE c true sc (.BoolOp .And es p) (den tb c.G i)) (fun a i h => se_one h) (fun a b es i j h1 h2 => by rw [den]; exact se_and h1 h2) (fun e i h => ok.E sc e i h) h
    | Or => exact foldB_ok (P := fun e i => SE c true sc e (den tb c.G i)) (R := fun es i => SE c true sc (.BoolOp .Or es p) (den tb c.G i)) (fun a i h => se_one h) (fun a b es i j h1 h2 => by rw [den]; exact se_or h1 h2) (fun e i h => ok.E sc e i h) h
  · rename_i t' a b p
    cases q1 : F.T sc t' with
    | none => rw [q1] at h; cases h
    | some k =>
      cases q2 : F.E sc a with
      | none => rw [q1, q2] at h; cases h
      | some i =>
        cases q3 : F.E sc b with
        | none => rw [q1, q2, q3] at h; cases h
        | some j =>
          rw [q1, q2, q3] at h
          cases h
          rw [den]
          exact se_ifExp (ok.T sc t' k q1) (ok.E sc a i q2) (ok.E sc b j q3)
  · split at h
    · rename_i z
      obtain ⟨is, e1, e2⟩ := Option.map_eq_some_iff.mp h
      subst e2
      rw [den]
      exact se_tup (mapM_ok ok z e1).1
    · cases h
  · split at h
    · rename_i z
      obtain ⟨is, e1, e2⟩ := Option.map_eq_some_iff.mp h
      subst e2
      split
      · rw [den]; exact se_lstM (mapM_ok ok z e1).1
      · rw [den]; exact se_lst (mapM_ok ok z e1).1
    · cases h
  · exact lc_ok ok h
  · rename_i a lo hi p2 p
    cases q1 : F.E sc a with
    | none => rw [q1] at h; cases h
    | some i =>
      cases q2 : oPart (F.E sc) lo with
      | none => rw [q1, q2] at h; cases h
      | some j =>
        cases q3 : oPart (F.E sc) hi with
        | none => rw [q1, q2, q3] at h; cases h
        | some k =>
          rw [q1, q2, q3] at h
          cases h
          rw [den]
          exact se_sl (ok.E sc a i q1) (part_ok ok q2) (part_ok ok q3)
  · rename_i a b p _
    split at h
    · rename_i z
      cases q1 : F.E sc a with
      | none => rw [q1] at h; cases h
      | some i =>
        cases q2 : F.E sc b with
        | none => rw [q1, q2] at h; cases h
        | some j =>
          rw [q1, q2] at h
          cases h
          rw [den]
          exact se_ix t.kd (ok.E sc a i q1) (ok.E sc b j q2) z
    · cases h
  · exact at_ok t ok h
  · rename_i x p es kws p'
    cases q0 : stDun tb F sc x es kws with
    | some r => rw [q0] at h; cases h; exact dun_ok t ok q0
    | none =>
      rw [q0] at h
      dsimp only at h
      cases q : stDz0 F sc x es kws with
      | some r => rw [q] at h; cases h; exact dz_ok t ok q
      | none => rw [q] at h; exact call_ok t ok h
  · exact js_ok' ok h
  · rename_i o m apos a pos
    cases q : stOne F sc o m apos a pos with
    | some r => rw [q] at h; cases h; exact one_ok ok q
    | none => rw [q] at h; exact meth_ok t ok h
  · exact meth_ok t ok h
  · cases h
include t ok in
theorem stT_ok {e : PySem.Expr} {ir : IE} (h : stT F sc e = some ir) : ST c true sc e (den tb c.G ir) := by
  unfold stT at h
  split at h
  · exact (cmp_ok ok h).2
  · obtain ⟨i, e1, e2⟩ := Option.map_eq_some_iff.mp h
    subst e2
    rw [den]
    exact st_not (ok.T sc _ i e1)
  · rename_i op es p
    cases op with
    | And => exact st_of_w (foldB_ok (P := fun e i => ST c true sc e (den tb c.G i)) (R := fun es i => STw c true sc (.BoolOp .And es p) (den tb c.G i)) (fun a i h => stw_and1 h) (fun a b es i j h1 h2 => by rw [den]; exact stw_and h1 h2) (fun e i h => ok.T sc e i h) h)
    | Or => exact st_of_w (foldB_ok (P := fun e i => ST c true sc e (den tb c.G i)) (R := fun es i => STw c true sc (.BoolOp .Or es p) (den tb c.G i)) (fun a i h => stw_or1 h) (fun a b es i j h1 h2 => by rw [den]; exact stw_or h1 h2) (fun e i h => ok.T sc e i h) h)
  · split at h
    · rename_i z
      obtain ⟨i, e1, e2⟩ := Option.map_eq_some_iff.mp h
      subst e2
      rw [den]
      exact st_tru (ok.E sc _ i e1) z
    · cases h
include t ok in
theorem stR_ok {tg : PySem.Expr} {x : Str} {es : List PySem.Expr} {ir : IE} {p pos : Pos} (h : stR F sc tg x es = some ir) : SI c true sc tg (.Call (.Name x p) es [] pos) (denI tb c.G ir) := by
  unfold stR at h
  split at h
  · rename_i a
    split at h
    · rename_i z
      simp only [Bool.and_eq_true] at z
      obtain ⟨⟨z1, z2⟩, z3⟩ := z
      have e := eq_of_beq z1
      subst e
      obtain ⟨i, e1, e2⟩ := Option.map_eq_some_iff.mp h
      subst e2
      rw [denI, dens, dens]
      exact si_rng1 z2 (t.bn _ (by decide)) (sa_cons (ok.E sc a i e1) sa_nil z3)
    · split at h
      · rename_i z
        simp only [Bool.and_eq_true] at z
        obtain ⟨⟨⟨z1, z2⟩, z3⟩, z4⟩ := z
        have e := eq_of_beq z1
        subst e
        obtain ⟨i, e1, e2⟩ := Option.map_eq_some_iff.mp h
        subst e2
        rw [denI, dens, dens]
        cases tg <;> first | exact Bool.noConfusion z4 | exact si_enum z2 (t.bn _ (by decide)) (sa_cons (ok.E sc a i e1) sa_nil z3)
      · cases h
  · rename_i a b
    split at h
    · rename_i z
      simp only [Bool.and_eq_true] at z
      obtain ⟨⟨⟨z1, z2⟩, z3⟩, z4⟩ := z
      have e := eq_of_beq z1
      subst e
      cases q1 : F.E sc a with
      | none => rw [q1] at h; cases h
      | some i =>
        cases q2 : F.E sc b with
        | none => rw [q1, q2] at h; cases h
        | some j =>
          rw [q1, q2] at h
          cases h
          rw [denI, dens, dens, dens]
          exact si_rng2 z2 (t.bn _ (by decide)) (sa_cons (ok.E sc a i q1) (sa_cons (ok.E sc b j q2) sa_nil z4) z3)
    · cases h
  · cases h
include t ok in
theorem stI_ok {tg e : PySem.Expr} {ir : IE} (h : stI F sc tg e = some ir) : SI c true sc tg e (denI tb c.G ir) := by
  have plain : ∀ {r}, (F.E sc e).map IE.itv = some r → SI c true sc tg e (denI tb c.G r) := fun {r} h => by
    obtain ⟨i, e1, e2⟩ := Option.map_eq_some_iff.mp h
    subst e2
    rw [denI]
    exact si_val (ok.E sc e i e1)
  unfold stI at h
  split at h
  · rename_i x p es pos
    cases q : stR F sc tg x es with
    | some r => rw [q] at h; cases h; exact stR_ok t ok q
    | none => rw [q] at h; exact plain h
  · exact plain h
include t in
theorem trF_ok : ∀ n, FamOk c tb (trF tb c.N n)
  | 0 => ⟨fun _ _ _ h => (by cases h), fun _ _ _ h => (by cases h), fun _ _ _ _ h => (by cases h)⟩
  | n + 1 => ⟨fun sc e ir h => stE_ok t (trF_ok n) h, fun sc e ir h => stT_ok t (trF_ok n) h, fun sc tg e ir h => stI_ok t (trF_ok n) h⟩
end
end DV

namespace DV
open PySem PySem.Spec PyProof.Rows L2
/-! ### the words of an except suite -/
section
variable (N : List Str)
def suE (F : Fam) (sc : Scope) : PySem.Expr → Option IE
  | .Name x _ => if okName x && visB sc x then (idxOf N x).map .var else none
  | .Constant (.int i) _ _ => some (.int i)
  | .Constant (.bool b) _ _ => some (.bl b)
  | .Constant .none _ _ => some .non
  | .Constant (.str x) _ _ => some (.str x)
  | .Tuple es _ _ => if notStars es then (es.mapM (F.E sc)).map .tup else none
  | .List es _ => if notStars es then (es.mapM (F.E sc)).map .lst else none
  | .Call (.Name f _) [.Name x _, .Name g _] [] _ => if f == ("isinstance" : Str) && glB sc f && okName x && okName g && visB sc x && glB sc g then (idxOf N x).map fun i => .xisi i g else none
  | .UnaryOp .Not a _ => (F.E sc a).map .not
  | .BoolOp op es _ => (es.mapM (F.E sc)).bind (foldB (match op with | .And => IE.and | .Or => IE.or))
  | .IfExp t a b _ => (match F.T sc t, F.E sc a, F.E sc b with
    | some k, some i, some j => some (.ife k i j)
    | _, _, _ => none)
  | _ => none
def suT (F : Fam) (sc : Scope) : PySem.Expr → Option IE
  | .UnaryOp .Not a _ => (F.T sc a).map .nott
  | .BoolOp op es _ => (es.mapM (F.T sc)).bind (foldB (match op with | .And => IE.andt | .Or => IE.ort))
  | e => if plainTest e then (F.E sc e).map .tru else none
def suF : Nat → Fam
  | 0 => ⟨fun _ _ => none, fun _ _ => none, fun _ _ _ => none⟩
  | n + 1 => ⟨suE N (suF n), suT (suF n), fun _ _ _ => none⟩
end
structure TbX (c : Cd) (tb : Tb) : Prop where
  bn : ∀ x ∈ bNames, c.mg x = none
  xk : XkOk c tb.xk
  hot : c.T.hx.isSome = true
structure FamX (c : Cd) (tb : Tb) (F : Fam) : Prop where
  E : ∀ sc e ir, F.E sc e = some ir → SE c false sc e (den tb c.G ir)
  T : ∀ sc e ir, F.T sc e = some ir → ST c false sc e (den tb c.G ir)
section
variable {c : Cd} {tb : Tb} {F : Fam} {sc : Scope} (t : TbX c tb) (ok : FamX c tb F)
include ok in
theorem mapX_ok : ∀ {es : List PySem.Expr} {is : List IE}, notStars es = true → es.mapM (F.E sc) = some is → SA c false sc es (dens tb c.G is)
  | [], is, _, h => by
    simp only [List.mapM_nil, Option.pure_def, Option.some.injEq] at h
    subst h
    rw [dens]
    exact sa_nil
  | e :: es, is, hs, h => by
    have hs' : notStar e = true ∧ notStars es = true := by simpa [notStars] using hs
    simp only [List.mapM_cons, Option.pure_def, Option.bind_eq_bind, Option.bind_eq_some_iff, Option.some.injEq] at h
    obtain ⟨i, e1, js, e2, e3⟩ := h
    subst e3
    rw [dens]
    exact sa_cons (ok.E sc e i e1) (mapX_ok hs'.2 e2) hs'.1
include t ok in
theorem suE_ok {e : PySem.Expr} {ir : IE} (h : suE c.N F sc e = some ir) : SE c false sc e (den tb c.G ir) := by
  unfold suE at h
  split at h
  · rename_i x p
    split at h
    · rename_i z
      obtain ⟨z1, z2⟩ := Bool.and_eq_true_iff.mp z
      obtain ⟨h1, h2⟩ := okName_ok z1
      obtain ⟨i, e1, e2⟩ := Option.map_eq_some_iff.mp h
      subst e2
      rw [den]
      exact se_var (idx_ok e1) z2 h1 h2
    · cases h
  · cases h; rw [den]; exact se_int
  · cases h; rw [den]; exact se_bl
  · cases h; rw [den]; exact se_non
  · cases h; rw [den]; exact se_str
  · split at h
    · rename_i z
      obtain ⟨is, e1, e2⟩ := Option.map_eq_some_iff.mp h
      subst e2
      rw [den]
      exact se_tup (mapX_ok ok z e1)
    · cases h
  · split at h
    · rename_i z
      obtain ⟨is, e1, e2⟩ := Option.map_eq_some_iff.mp h
      subst e2
      rw [den]
      exact se_lst (mapX_ok ok z e1)
    · cases h
  · split at h
    · rename_i z
      simp only [Bool.and_eq_true] at z
      obtain ⟨⟨⟨⟨⟨z1, z2⟩, z3⟩, z4⟩, z5⟩, z6⟩ := z
      have e := eq_of_beq z1
      subst e
      obtain ⟨i, e1, e2⟩ := Option.map_eq_some_iff.mp h
      subst e2
      rw [den]
      exact se_xisi t.xk t.hot (idx_ok e1) z5 z6 z2 (t.bn _ (by decide)) z3 z4
    · cases h
  · obtain ⟨i, e1, e2⟩ := Option.map_eq_some_iff.mp h
    subst e2
    rw [den]
    exact se_not (ok.E sc _ i e1)
  · rename_i op es p
    cases op with
    | And => exact foldB_ok (P := fun e i => SE c false sc e (den tb c.G i)) (R := fun es i => SE c false sc (.BoolOp .And es p) (den tb c.G i)) (fun a i h => se_one h) (fun a b es i j h1 h2 => by rw [den]; exact se_and h1 h2) (fun e i h => ok.E sc e i h) h
    | Or => exact foldB_ok (P := fun e i => SE c false sc e (den tb c.G i)) (R := fun es i => SE c false sc (.BoolOp .Or es p) (den tb c.G i)) (fun a i h => se_one h) (fun a b es i j h1 h2 => by rw [den]; exact se_or h1 h2) (fun e i h => ok.E sc e i h) h
  · rename_i t' a b p
    cases q1 : F.T sc t' with
    | none => rw [q1] at h; cases h
    | some k =>
      cases q2 : F.E sc a with
      | none => rw [q1, q2] at h; cases h
      | some i =>
        cases q3 : F.E sc b with
        | none => rw [q1, q2, q3] at h; cases h
        | some j =>
          rw [q1, q2, q3] at h
          cases h
          rw [den]
          exact se_ifExp (ok.T sc t' k q1) (ok.E sc a i q2) (ok.E sc b j q3)
  · cases h
include ok in
theorem suT_ok {e : PySem.Expr} {ir : IE} (h : suT F sc e = some ir) : ST c false sc e (den tb c.G ir) := by
  unfold suT at h
  split at h
  · obtain ⟨i, e1, e2⟩ := Option.map_eq_some_iff.mp h
    subst e2
    rw [den]
    exact st_not (ok.T sc _ i e1)
  · rename_i op es p
    cases op with
    | And => exact st_of_w (foldB_ok (P := fun e i => ST c false sc e (den tb c.G i)) (R := fun es i => STw c false sc (.BoolOp .And es p) (den tb c.G i)) (fun a i h => stw_and1 h) (fun a b es i j h1 h2 => by rw [den]; exact stw_and h1 h2) (fun e i h => ok.T sc e i h) h)
    | Or => exact st_of_w (foldB_ok (P := fun e i => ST c false sc e (den tb c.G i)) (R := fun es i => STw c false sc (.BoolOp .Or es p) (den tb c.G i)) (fun a i h => stw_or1 h) (fun a b es i j h1 h2 => by rw [den]; exact stw_or h1 h2) (fun e i h => ok.T sc e i h) h)
  · split at h
    · rename_i z
      obtain ⟨i, e1, e2⟩ := Option.map_eq_some_iff.mp h
      subst e2
      rw [den]
      exact st_tru (ok.E sc _ i e1) z
    · cases h
include t in
theorem suF_ok : ∀ n, FamX c tb (suF c.N n)
  | 0 => ⟨fun _ _ _ h => (by cases h), fun _ _ _ h => (by cases h)⟩
  | n + 1 => ⟨fun sc e ir h => suE_ok t (suF_ok n) h, fun sc e ir h => suT_ok (suF_ok n) h⟩
end
end DV

namespace DV
open PySem PySem.Spec PyProof.Rows L2

inductive IG where
  | var (i : Nat) | sub (a b : IE) | tup (gs : List IG)
inductive IS where
  | exp (e : IE) | doc | set (i : Nat) (e : IE) | asg (g : IG) (e : IE) | par (i j : Nat) (a b : IE) | ret (e : IE) | retF (e : IE) | retN | pass | brk | cont
  | ite (t : IE) (a b : List IS) | forr (it : IE) (g : IG) (body : List IS) | whl (t : IE) (body : List IS) | attr (f : Str) (v o : IE) | never | par3 (i j l : Nat) (a b c : IE) | raise0 (x : Str) | tryx (g : Str) (i : Nat) (a b : List IS)
section
variable (tb : Tb) (G : Gam)
mutual
def denG : IG → Gs
  | .var i => gVar i
  | .sub a b => gSubP (den tb G a) (den tb G b)
  | .tup gs => gTupP (denGs gs)
def denGs : List IG → List Gs
  | [] => []
  | g :: gs => denG g :: denGs gs
end
mutual
noncomputable def denS : IS → Ss
  | .exp e => fun ρ st => (den tb G e ρ st).toS ρ fun _ st => .nx ρ st
  | .doc => .nx
  | .set i e => fun ρ st => (den tb G e ρ st).toS ρ fun d st => .nx (ρ.set i (.v d)) st
  | .asg g e => fun ρ st => (den tb G e ρ st).toS ρ fun d st => gOnly (denG tb G g d ρ st)
  | .par i j a b => parP i j (den tb G a) (den tb G b)
  | .ret e => fun ρ st => (den tb G e ρ st).toS ρ .rt
  | .retF e => fun ρ st => (shFrz (den tb G e) ρ st).toS ρ .rt
  | .retN => fun _ st => .rt .non st
  | .pass => .nx
  | .brk => .bk
  | .cont => .ct
  | .ite t a b => stIf (den tb G t) (denB a) (denB b)
  | .forr it g body => stFor (denI tb G it) (denG tb G g) (denB body)
  | .whl t body => stWhile (den tb G t) (denB body)
  | .attr f v o => stAttr tb.cls f (den tb G v) (den tb G o)
  | .never => fun _ _ => .stuck
  | .par3 i j l a b d => par3P i j l (den tb G a) (den tb G b) (den tb G d)
  | .raise0 x => fun ρ st => .ex x [] ρ st
  | .tryx g i a b => stTry tb.xm g i (denB a) (denB b)
noncomputable def denB : List IS → Ss
  | [] => .nx
  | s :: ss => fun ρ st => (denS s ρ st).then (denB ss)
end
end
section
variable (tb : Tb) (N : List Str)
mutual
def stG (F : Fam) (sc : Scope) : Nat → PySem.Expr → Option IG
  | 0, _ => none
  | n + 1, e => match e with
    | .Name x _ => if locB sc x then (idxOf N x).map .var else none
    | .Subscript a b _ => if plainIxB b then (match F.E sc a, F.E sc b with
      | some i, some j => some (.sub i j)
      | _, _ => none) else none
    | .Tuple es _ _ => (stGs F sc n es).map .tup
    | _ => none
def stGs (F : Fam) (sc : Scope) : Nat → List PySem.Expr → Option (List IG)
  | 0, _ => none
  | n + 1, es => match es with
    | [] => some []
    | e :: es => if okTg e then (match stG F sc n e, stGs F sc n es with
      | some g, some gs => some (g :: gs)
      | _, _ => none) else none
end
def stSet (F : Fam) (sc : Scope) (x : Str) (py : Pos) (e : PySem.Expr) : Option IS :=
  if locB sc x then (match idxOf N x with
    | none => none
    | some i => (match e with
      | .ListComp elt [⟨tg, iter, ifs, 0⟩] scope p => if lineC sc scope x p py then (stLc N F sc elt tg iter ifs scope (isMut tb p)).map (.set i) else none
      | e => if swaps e then none else (F.E sc e).map (.set i)))
  else none
def stAsg (F : Fam) (sc : Scope) (n : Nat) (tg e : PySem.Expr) : Option IS :=
  if okTg tg && !swaps e && (notTup tg || notTup e || noSwap sc tg e) then (match stG N F sc n tg, F.E sc e with
    | some g, some i => some (.asg g i)
    | _, _ => none) else none
def stPar (F : Fam) (sc : Scope) (x y : Str) (px py : Pos) (a b : PySem.Expr) : Option IS :=
  if parC sc x y px py a b then (match idxOf N x, idxOf N y, F.E sc a, F.E sc b with
    | some i, some j, some k, some l => if i = j then none else some (.par i j k l)
    | _, _, _, _ => none) else none
def stPar3 (F : Fam) (sc : Scope) (x y z : Str) (px py pz : Pos) (a b d : PySem.Expr) : Option IS :=
  if par3C sc x y z px py pz a b d && locS sc x && locS sc y && locS sc z && notStars [a, b, d] then (match idxOf N x, idxOf N y, idxOf N z, [a, b, d].mapM (F.E sc) with
    | some i, some j, some l, some [k1, k2, k3] => if i ≠ j ∧ i ≠ l ∧ j ≠ l then some (.par3 i j l k1 k2 k3) else none
    | _, _, _, _ => none) else none
def stAttrS (F : Fam) (sc : Scope) (o : PySem.Expr) (f : Str) (e : PySem.Expr) : Option IS :=
  if tb.flds.contains f && !swaps e then (match F.E sc e, F.E sc o with
    | some i, some j => some (.attr f i j)
    | _, _ => none) else none
def stRet (F : Fam) (sc : Scope) (e : PySem.Expr) : Option IS := match e with
  | .Name x p => if isMut tb p then (F.E sc (.Name x p)).map .retF else (F.E sc (.Name x p)).map .ret
  | e => (F.E sc e).map .ret
def suS (F : Fam) (B : Scope → List Stmt → Option (List IS)) (sc : Scope) : Stmt → Option IS
  | .Assign [.Name x _] e _ => if locB sc x && !swaps e then (match idxOf N x, F.E sc e with
    | some i, some j => some (.set i j)
    | _, _ => none) else none
  | .Return (some e) _ => (F.E sc e).map .ret
  | .If t a b _ => (match F.T sc t, B sc a, B sc b with
    | some k, some x, some y => some (.ite k x y)
    | _, _, _ => none)
  | _ => none
def suB (F : Fam) : Nat → Scope → List Stmt → Option (List IS)
  | 0, _, _ => none
  | n + 1, sc, ss => ss.mapM (suS N F (suB F n) sc)
def stTryS (B : Scope → List Stmt → Option (List IS)) (sc : Scope) (body : List Stmt) (g n : Str) (b₀ : Stmt) (suite : List Stmt) : Option IS :=
  if (sc.names.lookup n == some .local) && glB sc g && okName g && (tb.xm.any fun p => p.1.2 == g) then (match idxOf N n, B sc body, suB N (suF N 20) 6 sc (b₀ :: suite) with
    | some i, some x, some y => some (.tryx g i x y)
    | _, _, _ => none) else none
def stS (F : Fam) (B : Scope → List Stmt → Option (List IS)) (n : Nat) (sc : Scope) : Stmt → Option IS
  | .Expr (.Constant (.str _) _ _) _ => some .doc
  | .Expr e _ => if swaps e then none else (F.E sc e).map .exp
  | .Assign [.Name x py] e _ => stSet tb N F sc x py e
  | .Assign [.Attribute o f _] e _ => stAttrS tb F sc o f e
  | .Assign [.Tuple [.Name x px, .Name y py] kt pt] (.Tuple [a, b] k2 p2) _ => (match stPar N F sc x y px py a b with
    | some r => some r
    | none => stAsg N F sc n (.Tuple [.Name x px, .Name y py] kt pt) (.Tuple [a, b] k2 p2))
  | .Assign [.Tuple [.Name x px, .Name y py, .Name z pz] kt pt] (.Tuple [a, b, d] k2 p2) _ => (match stPar3 N F sc x y z px py pz a b d with
    | some r => some r
    | none => stAsg N F sc n (.Tuple [.Name x px, .Name y py, .Name z pz] kt pt) (.Tuple [a, b, d] k2 p2))
  | .Assign [tg] e _ => stAsg N F sc n tg e
  | .Return none _ => some .retN
  | .Return (some e) _ => stRet tb F sc e
  | .Pass _ => some .pass
  | .Break _ => some .brk
  | .Continue _ => some .cont
  | .Raise (some (.Call (.Name x _) [] [] _)) none _ => if tb.xc.contains x && glB sc x && okName x then some (.raise0 x) else some .never
  | .Raise _ _ _ => some .never
  | .Try body [.ExceptHandler (some (.Name g _)) (some n) (b₀ :: suite) _] [] [] _ => stTryS tb N B sc body g n b₀ suite
  | .If t a b _ => (match F.T sc t, B sc a, B sc b with
    | some k, some x, some y => some (.ite k x y)
    | _, _, _ => none)
  | .For tg it body [] _ => if notSet it && okTg tg then (match F.I sc tg it, stG N F sc n tg, B sc body with
    | some i, some g, some x => some (.forr i g x)
    | _, _, _ => none) else none
  | .While t body [] _ => (match F.T sc t, B sc body with
    | some k, some x => some (.whl k x)
    | _, _ => none)
  | _ => none
def trB (F : Fam) : Nat → Scope → List Stmt → Option (List IS)
  | 0, _, _ => none
  | n + 1, sc, ss => ss.mapM (stS tb N F (trB F n) n sc)
end
section
variable {c : Cd} {tb : Tb} {F : Fam} {sc : Scope} (t : TbOk c tb) (ok : FamOk c tb F)
include ok in
theorem stG_ok : ∀ n, (∀ e g, stG c.N F sc n e = some g → SG c sc e (denG tb c.G g)) ∧ ∀ es gs, stGs c.N F sc n es = some gs → SGs c sc es (denGs tb c.G gs)
  | 0 => ⟨fun e g h => (by rw [stG.eq_def] at h; cases h), fun es gs h => (by rw [stGs.eq_def] at h; cases h)⟩
  | n + 1 => by
    obtain ⟨ih1, ih2⟩ := stG_ok n
    refine ⟨fun e g h => ?_, fun es gs h => ?_⟩
    · rw [stG.eq_def] at h
      dsimp only at h
      split at h
      · rename_i x p
        split at h
        · rename_i z
          obtain ⟨i, e1, e2⟩ := Option.map_eq_some_iff.mp h
          subst e2
          rw [denG]
          exact sg_var (idx_ok e1) z
        · cases h
      · rename_i a b p
        split at h
        · rename_i z
          cases q1 : F.E sc a with
          | none => rw [q1] at h; cases h
          | some i =>
            cases q2 : F.E sc b with
            | none => rw [q1, q2] at h; cases h
            | some j =>
              rw [q1, q2] at h
              cases h
              rw [denG]
              exact sg_sub (ok.E sc a i q1) (ok.E sc b j q2) z
        · cases h
      · rename_i es k p
        obtain ⟨gs, e1, e2⟩ := Option.map_eq_some_iff.mp h
        subst e2
        rw [denG]
        exact sg_tup (ih2 es gs e1)
      · cases h
    · rw [stGs.eq_def] at h
      dsimp only at h
      split at h
      · cases h; rw [denGs]; exact sgs_nil
      · rename_i e es
        split at h
        · rename_i z
          cases q1 : stG c.N F sc n e with
          | none => rw [q1] at h; cases h
          | some g =>
            cases q2 : stGs c.N F sc n es with
            | none => rw [q1, q2] at h; cases h
            | some gs' =>
              rw [q1, q2] at h
              cases h
              rw [denGs]
              exact sgs_cons (ih1 e g q1) (ih2 es gs' q2) z
        · cases h
include ok in
theorem stSet_ok {x : Str} {py pos : Pos} {e : PySem.Expr} {ir : IS} (h : stSet tb c.N F sc x py e = some ir) : SS c sc (.Assign [.Name x py] e pos) (denS tb c.G ir) := by
  unfold stSet at h
  split at h
  · rename_i z
    cases q : idxOf c.N x with
    | none => rw [q] at h; cases h
    | some i =>
      rw [q] at h
      dsimp only at h
      split at h
      · rename_i elt tg iter ifs scope p
        split at h
        · rename_i zl
          obtain ⟨r, e1, e2⟩ := Option.map_eq_some_iff.mp h
          subst e2
          obtain ⟨it, t', fs, el, vs, e3, e4, L⟩ := lcOk_of ok e1
          subst e3 e4
          rw [denS, den]
          split
          · exact ss_setLcM L (idx_ok q) zl
          · exact ss_setLc L (idx_ok q) zl
        · cases h
      · split at h
        · cases h
        · rename_i zs
          obtain ⟨r, e1, e2⟩ := Option.map_eq_some_iff.mp h
          subst e2
          rw [denS]
          exact ss_set (idx_ok q) z (ok.E sc _ r e1) (by simpa using zs)
  · cases h
include ok in
theorem stAsg_ok {tg e : PySem.Expr} {n : Nat} {pos : Pos} {ir : IS} (h : stAsg c.N F sc n tg e = some ir) : SS c sc (.Assign [tg] e pos) (denS tb c.G ir) := by
  unfold stAsg at h
  split at h
  · rename_i z
    simp only [Bool.and_eq_true, Bool.or_eq_true] at z
    obtain ⟨⟨z1, z2⟩, z3⟩ := z
    cases q1 : stG c.N F sc n tg with
    | none => rw [q1] at h; cases h
    | some g =>
      cases q2 : F.E sc e with
      | none => rw [q1, q2] at h; cases h
      | some i =>
        rw [q1, q2] at h
        cases h
        rw [denS]
        exact ss_asg (ok.E sc e i q2) ((stG_ok ok n).1 tg g q1) z1 (by simpa using z2) fun X hX => by
          rcases z3 with (z | z) | z
          · exact sw_one z
          · exact sw_val z
          · exact sw_no hX.ctx.sc z
  · cases h
include ok in
theorem stPar_ok {x y : Str} {px py pt pt2 pos : Pos} {kt k2 : Nat} {a b : PySem.Expr} {ir : IS} (h : stPar c.N F sc x y px py a b = some ir) : SS c sc (.Assign [.Tuple [.Name x px, .Name y py] kt pt] (.Tuple [a, b] k2 pt2) pos) (denS tb c.G ir) := by
  unfold stPar at h
  split at h
  · rename_i z
    cases q1 : idxOf c.N x with
    | none => rw [q1] at h; cases h
    | some i =>
      cases q2 : idxOf c.N y with
      | none => rw [q1, q2] at h; cases h
      | some j =>
        cases q3 : F.E sc a with
        | none => rw [q1, q2, q3] at h; cases h
        | some k =>
          cases q4 : F.E sc b with
          | none => rw [q1, q2, q3, q4] at h; cases h
          | some l =>
            rw [q1, q2, q3, q4] at h
            have h : (if i = j then none else some (IS.par i j k l)) = some ir := h
            by_cases ij : i = j
            · rw [if_pos ij] at h; cases h
            · rw [if_neg ij] at h
              cases h
              rw [denS]
              have z0 := z
              unfold parC at z0
              simp only [Bool.and_eq_true] at z0
              obtain ⟨⟨⟨⟨⟨⟨⟨h1, h2⟩, h3⟩, h4⟩, h5⟩, h6⟩, h7⟩, h8⟩ := z0
              exact ss_par (idx_ok q1) (idx_ok q2) ij (ok.E sc a k q3) (ok.E sc b l q4) z (by split at h1 <;> simp_all) (by split at h2 <;> simp_all) (sa_cons (ok.E sc a k q3) (sa_cons (ok.E sc b l q4) sa_nil h5) h4)
  · cases h
include ok in
theorem stPar3_ok {x y z : Str} {px py pz pt pt2 pos : Pos} {kt k2 : Nat} {a b d : PySem.Expr} {ir : IS} (h : stPar3 c.N F sc x y z px py pz a b d = some ir) : SS c sc (.Assign [.Tuple [.Name x px, .Name y py, .Name z pz] kt pt] (.Tuple [a, b, d] k2 pt2) pos) (denS tb c.G ir) := by
  unfold stPar3 at h
  split at h
  · rename_i zz
    simp only [Bool.and_eq_true] at zz
    obtain ⟨⟨⟨⟨z1, z2⟩, z3⟩, z4⟩, z5⟩ := zz
    split at h
    · rename_i i j l k1 k2' k3 q1 q2 q3 q4
      split at h
      · rename_i ne
        cases h
        rw [denS]
        have sa := mapM_ok ok z5 q4
        rw [dens, dens, dens, dens] at sa
        exact ss_par3 (idx_ok q1) (idx_ok q2) (idx_ok q3) ne.1 ne.2.1 ne.2.2 z1 z2 z3 z4 sa.1
      · cases h
    · cases h
  · cases h
include t ok in
theorem stAttrS_ok {o e : PySem.Expr} {f : Str} {p2 pos : Pos} {ir : IS} (h : stAttrS tb F sc o f e = some ir) : SS c sc (.Assign [.Attribute o f p2] e pos) (denS tb c.G ir) := by
  unfold stAttrS at h
  split at h
  · rename_i z
    obtain ⟨z1, z2⟩ := Bool.and_eq_true_iff.mp z
    cases q1 : F.E sc e with
    | none => rw [q1] at h; cases h
    | some i =>
      cases q2 : F.E sc o with
      | none => rw [q1, q2] at h; cases h
      | some j =>
        rw [q1, q2] at h
        cases h
        rw [denS]
        exact ss_attr (t.at_ f z1) (ok.E sc e i q1) (ok.E sc o j q2) (by simpa using z2)
  · cases h
include ok in
theorem stRet_ok {e : PySem.Expr} {pos : Pos} {ir : IS} (h : stRet tb F sc e = some ir) : SS c sc (.Return (some e) pos) (denS tb c.G ir) := by
  unfold stRet at h
  split at h
  · split at h
    · obtain ⟨r, e1, e2⟩ := Option.map_eq_some_iff.mp h
      subst e2
      rw [denS]
      exact ss_ret (se_frz (ok.E sc _ r e1))
    · obtain ⟨r, e1, e2⟩ := Option.map_eq_some_iff.mp h
      subst e2
      rw [denS]
      exact ss_ret (ok.E sc _ r e1)
  · obtain ⟨r, e1, e2⟩ := Option.map_eq_some_iff.mp h
    subst e2
    rw [denS]
    exact ss_ret (ok.E sc _ r e1)
theorem suS_ok {B : Scope → List Stmt → Option (List IS)} (okx : FamX c tb F) (hB : ∀ sc ss is, B sc ss = some is → SSxs c sc ss (denB tb c.G is)) {s : Stmt} {ir : IS} (h : suS c.N F B sc s = some ir) : SSx c sc s (denS tb c.G ir) := by
  unfold suS at h
  split at h
  · rename_i x p e p'
    split at h
    · rename_i z
      obtain ⟨z1, z2⟩ := Bool.and_eq_true_iff.mp z
      cases q1 : idxOf c.N x with
      | none => rw [q1] at h; cases h
      | some i =>
        cases q2 : F.E sc e with
        | none => rw [q1, q2] at h; cases h
        | some j =>
          rw [q1, q2] at h
          cases h
          rw [denS]
          exact ssx_set (idx_ok q1) z1 (okx.E sc e j q2) (by simpa using z2)
    · cases h
  · obtain ⟨r, e1, e2⟩ := Option.map_eq_some_iff.mp h
    subst e2
    rw [denS]
    exact ssx_ret (okx.E sc _ r e1)
  · rename_i te a b p
    cases q1 : F.T sc te with
    | none => rw [q1] at h; cases h
    | some k =>
      cases q2 : B sc a with
      | none => rw [q1, q2] at h; cases h
      | some x =>
        cases q3 : B sc b with
        | none => rw [q1, q2, q3] at h; cases h
        | some y =>
          rw [q1, q2, q3] at h
          cases h
          rw [denS]
          exact ssx_if (okx.T sc te k q1) (hB sc a x q2) (hB sc b y q3)
  · cases h
theorem blockX_ok {S : Stmt → Option IS} (hS : ∀ s ir, S s = some ir → SSx c sc s (denS tb c.G ir)) : ∀ {ss : List Stmt} {is : List IS}, ss.mapM S = some is → SSxs c sc ss (denB tb c.G is)
  | [], is, h => by
    simp only [List.mapM_nil, Option.pure_def, Option.some.injEq] at h
    subst h
    rw [denB]
    exact ssx_nil
  | s :: ss, is, h => by
    simp only [List.mapM_cons, Option.pure_def, Option.bind_eq_bind, Option.bind_eq_some_iff, Option.some.injEq] at h
    obtain ⟨i, e1, js, e2, e3⟩ := h
    subst e3
    rw [denB]
    exact ssx_cons (hS s i e1) (blockX_ok hS e2)
theorem suB_ok (okx : FamX c tb F) : ∀ n sc ss is, suB c.N F n sc ss = some is → SSxs c sc ss (denB tb c.G is)
  | 0, _, _, _, h => by rw [suB] at h; cases h
  | n + 1, sc, ss, is, h => by
    rw [suB] at h
    exact blockX_ok (fun s ir hs => suS_ok okx (suB_ok okx n) hs) h
include t in
theorem stTryS_ok {B : Scope → List Stmt → Option (List IS)} (hB : ∀ sc ss is, B sc ss = some is → SSs c sc ss (denB tb c.G is)) {body suite : List Stmt} {g n : Str} {b₀ : Stmt} {np pos' pos : Pos} {ir : IS} (h : stTryS tb c.N B sc body g n b₀ suite = some ir) :
    SS c sc (.Try body [.ExceptHandler (some (.Name g np)) (some n) (b₀ :: suite) pos'] [] [] pos) (denS tb c.G ir) := by
  unfold stTryS at h
  split at h
  · rename_i z
    simp only [Bool.and_eq_true] at z
    obtain ⟨⟨⟨z1, z2⟩, z3⟩, z4⟩ := z
    cases q1 : idxOf c.N n with
    | none => rw [q1] at h; cases h
    | some i =>
      cases q2 : B sc body with
      | none => rw [q1, q2] at h; cases h
      | some x =>
        cases q3 : suB c.N (suF c.N 20) 6 sc (b₀ :: suite) with
        | none => rw [q1, q2, q3] at h; cases h
        | some y =>
          rw [q1, q2, q3] at h
          cases h
          rw [denS]
          have hk : ∃ cn b, tb.xm.lookup (cn, g) = some b := by
            obtain ⟨p, hp, e⟩ := List.any_eq_true.mp z4
            obtain ⟨⟨cn, g'⟩, b⟩ := p
            have e : g' = g := eq_of_beq e
            subst e
            cases q : tb.xm.lookup (cn, g') with
            | some b' => exact ⟨cn, b', q⟩
            | none =>
              rw [List.lookup_eq_none_iff] at q
              have := q _ hp
              simp at this
          exact ss_try t.xm (idx_ok q1) z1 z2 (okName_ok z3).1 hk (hB sc body x q2) fun a cn => suB_ok (c := c.hot a cn) (suF_ok (c := c.hot a cn) ⟨t.bn, ⟨t.xk.of⟩, rfl⟩ 20) 6 sc _ y q3
  · cases h
include t ok in
theorem stS_ok {B : Scope → List Stmt → Option (List IS)} (hB : ∀ sc ss is, B sc ss = some is → SSs c sc ss (denB tb c.G is)) {n : Nat} {s : Stmt} {ir : IS} (h : stS tb c.N F B n sc s = some ir) : SS c sc s (denS tb c.G ir) := by
  unfold stS at h
  split at h
  · cases h; rw [denS]; exact ss_doc
  · split at h
    · cases h
    · rename_i zs
      obtain ⟨r, e1, e2⟩ := Option.map_eq_some_iff.mp h
      subst e2
      rw [denS]
      exact ss_expr (ok.E sc _ r e1) (by simpa using zs)
  · exact stSet_ok ok h
  · exact stAttrS_ok t ok h
  · split at h
    · rename_i r e
      cases h
      exact stPar_ok ok e
    · exact stAsg_ok ok h
  · split at h
    · rename_i r e
      cases h
      exact stPar3_ok ok e
    · exact stAsg_ok ok h
  · exact stAsg_ok ok h
  · cases h; rw [denS]; exact ss_retN
  · exact stRet_ok ok h
  · cases h; rw [denS]; exact ss_pass
  · cases h; rw [denS]; exact ss_break
  · cases h; rw [denS]; exact ss_cont
  · split at h
    · rename_i z
      simp only [Bool.and_eq_true] at z
      obtain ⟨⟨z1, z2⟩, z3⟩ := z
      cases h
      rw [denS]
      exact ss_raise0 (t.xc _ z1) z2 (okName_ok z3).1
    · cases h; rw [denS]; exact ss_never
  · cases h; rw [denS]; exact ss_never
  · exact stTryS_ok t hB h
  · rename_i te a b p
    cases q1 : F.T sc te with
    | none => rw [q1] at h; cases h
    | some k =>
      cases q2 : B sc a with
      | none => rw [q1, q2] at h; cases h
      | some x =>
        cases q3 : B sc b with
        | none => rw [q1, q2, q3] at h; cases h
        | some y =>
          rw [q1, q2, q3] at h
          cases h
          rw [denS]
          exact ss_if (ok.T sc te k q1) (hB sc a x q2) (hB sc b y q3)
  · rename_i tg it body p
    split at h
    · rename_i z
      obtain ⟨z1, z2⟩ := Bool.and_eq_true_iff.mp z
      cases q1 : F.I sc tg it with
      | none => rw [q1] at h; cases h
      | some i =>
        cases q2 : stG c.N F sc n tg with
        | none => rw [q1, q2] at h; cases h
        | some g =>
          cases q3 : B sc body with
          | none => rw [q1, q2, q3] at h; cases h
          | some x =>
            rw [q1, q2, q3] at h
            cases h
            rw [denS]
            exact ss_for (ok.I sc tg it i q1) ((stG_ok ok n).1 tg g q2) (hB sc body x q3) z1
    · cases h
  · rename_i te body p
    cases q1 : F.T sc te with
    | none => rw [q1] at h; cases h
    | some k =>
      cases q2 : B sc body with
      | none => rw [q1, q2] at h; cases h
      | some x =>
        rw [q1, q2] at h
        cases h
        rw [denS]
        exact ss_while (ok.T sc te k q1) (hB sc body x q2)
  · cases h
theorem block_ok {S : Stmt → Option IS} (hS : ∀ s ir, S s = some ir → SS c sc s (denS tb c.G ir)) : ∀ {ss : List Stmt} {is : List IS}, ss.mapM S = some is → SSs c sc ss (denB tb c.G is)
  | [], is, h => by
    simp only [List.mapM_nil, Option.pure_def, Option.some.injEq] at h
    subst h
    rw [denB]
    exact ss_nil
  | s :: ss, is, h => by
    simp only [List.mapM_cons, Option.pure_def, Option.bind_eq_bind, Option.bind_eq_some_iff, Option.some.injEq] at h
    obtain ⟨i, e1, js, e2, e3⟩ := h
    subst e3
    rw [denB]
    exact ss_cons (hS s i e1) (block_ok hS e2)
include t ok in
theorem trB_ok : ∀ n sc ss is, trB tb c.N F n sc ss = some is → SSs c sc ss (denB tb c.G is)
  | 0, _, _, _, h => by rw [trB] at h; cases h
  | n + 1, sc, ss, is, h => by
    rw [trB] at h
    exact block_ok (fun s ir hs => stS_ok t ok (trB_ok n) hs) h
end
/-- a def's body, translated -/
def trBody (tb : Tb) (N : List Str) (sc : Scope) (body : List Stmt) : Option (List IS) := trB tb N (trF tb N 30) 12 sc body
theorem trBody_ok {c : Cd} {tb : Tb} {sc : Scope} {body : List Stmt} {is : List IS} (t : TbOk c tb) (h : trBody tb c.N sc body = some is) : SSs c sc body (denB tb c.G is) := trB_ok t (trF_ok t 30) 12 sc body is h
end DV

namespace DV
open PySem PySem.Spec PyProof.Rows L2

/-! ### a law's defs -/
structure Dd where
  at_ : Str × Option Str
  name : Str
  qual : Str
  params : Arguments
  body : List Stmt
  scope : Scope
  ps : List Str
  pv : Option Str
  N : List Str
  sh : Shapes
  is : List IS
  get : Bool
/-- a getter's address -/
def prAd (K : PySem.W.Frag) (C f : Str) : Addr := match PySem.W.recIn K (He.ma K (He.ga K C) f) "property" with
  | some (.ref g :: _) => g
  | _ => 0
def Dd.adr (K : PySem.W.Frag) (d : Dd) : Addr := match d.get, d.at_.2 with
  | true, some f => prAd K d.at_.1 f
  | _, _ => He.fAd K d.at_
def Dd.val (d : Dd) : He.FnW := some (d.name, d.qual, d.params, .stmts d.body, d.scope, mainGlobals, [], builtinsNs)
def fnA (K : PySem.W.Frag) (a : Addr) : He.FnW := match K.lookup a with
  | some o => (match o.data with
    | .func fd => some (fd.name, fd.qualname, fd.params, fd.body, fd.scope, fd.globals, fd.closure, fd.builtins)
    | _ => none)
  | none => none
def noneB : Value → Bool
  | .none => true
  | _ => false
def okA (K : PySem.W.Frag) (a : Addr) (q : Str) : Bool := PySem.W.keepIn K (.ref a) && (match K.lookup a with
  | some o => (match o.data with
    | .func fd => PySem.W.codeIn K fd.code q && noneB fd.defaults
    | _ => false)
  | none => false)
inductive Df where
  | fn (d : Dd)
  | mk (C : Str) (init : Nat)
def Df.adr (K : PySem.W.Frag) : Df → Addr
  | .fn d => d.adr K
  | .mk C _ => He.ga K C
noncomputable def Df.sem (tb : Tb) (G : Gam) : Df → List Str → Fn
  | .fn d => defP d.sh d.pv.isSome d.N (denB tb G d.is)
  | .mk C i => fun kws => makeP C (G i kws)
/-- what the defs are worth, so many calls deep -/
noncomputable def sem (tb : Tb) (dl : List Df) : Nat → Gam
  | 0 => fun _ _ _ _ => .stuck
  | k + 1 => fun n => match dl[n]? with
    | some df => df.sem tb (sem tb dl k)
    | none => fun _ _ _ => .stuck

/-! ### what the text alone tells -/
def AllV (P : List Value → Prop) : Nat → Prop
  | 0 => P []
  | n + 1 => ∀ v : Value, AllV (fun vs => P (v :: vs)) n
theorem AllV.to {P : List Value → Prop} : ∀ {n : Nat}, AllV P n → ∀ vs : List Value, vs.length = n → P vs
  | 0, h, [], _ => h
  | n + 1, h, v :: vs, e => AllV.to (P := fun vs => P (v :: vs)) (h v) vs (by simpa using e)
def AllL {α : Type} (P : α → Prop) : List α → Prop
  | [] => True
  | a :: as => P a ∧ AllL P as
theorem AllL.to {α : Type} {P : α → Prop} : ∀ {l : List α}, AllL P l → ∀ a ∈ l, P a
  | b :: l, ⟨h1, h2⟩, a, hm => by
    rcases List.mem_cons.mp hm with e | hm
    · exact e ▸ h1
    · exact AllL.to h2 a hm
def ixB (ps : List Str) (p : List Str × Nat × List Nat) : Bool := decide (p.2.2.length = ps.length) && p.2.2.all fun i => decide (i < p.2.1 + p.1.length)
def BndA (d : Dd) (kV doc pm cdv ct : Value) (an : Option Addr) (p : List Str × Nat × List Nat) : Prop :=
  AllV (fun us => AllV (fun zs => bindArgs (PySem.W.fnOf d.name d.qual d.params d.body d.scope .none kV doc pm an cdv ct) ⟨us, p.1.zip zs⟩ = pure (d.ps.zip (p.2.2.map fun i => (us ++ zs).getD i .none))) p.1.length) p.2.1
def BndS (d : Dd) (pv : Str) (kV doc pm cdv ct : Value) (an : Option Addr) (p : List Str × Nat × List Nat) : Prop := match p.1 with
  | [] => AllV (fun us => ∀ rest : List Value, bindArgs (PySem.W.fnOf d.name d.qual d.params d.body d.scope .none kV doc pm an cdv ct) ⟨us ++ rest, []⟩ = (newTuple rest >>= fun t => pure (d.ps.zip (p.2.2.map fun i => us.getD i .none) ++ [(pv, t)]))) p.2.1
  | k :: ks => AllV (fun us => AllV (fun zs => bindArgs (PySem.W.fnOf d.name d.qual d.params d.body d.scope .none kV doc pm an cdv ct) ⟨us, (k :: ks).zip zs⟩ = (newTuple [] >>= fun t => pure (d.ps.zip (p.2.2.map fun i => (us ++ zs).getD i .none) ++ [(pv, t)]))) (ks.length + 1)) p.2.1
def ShOk (d : Dd) : Prop := ∀ (kV doc pm cdv ct : Value) (an : Option Addr), match d.pv with
  | none => AllL (BndA d kV doc pm cdv ct an) d.sh
  | some pv => AllL (BndS d pv kV doc pm cdv ct an) d.sh
def scB (N P : List Str) (sc : Scope) : Bool := decide (sc.kind = .function) && (sc.isCoroutine == false) && (sc.isGenerator == false) && decide N.Nodup && decide (N.take P.length = P) && (P.all fun x => sc.names.lookup x == some .local || sc.names.lookup x == some .cell) && (sc.names.all fun y => !(y.2 == .free))
theorem scB_ok {N P : List Str} {sc : Scope} (h : scB N P sc = true) : FnScope N P sc := by
  unfold scB at h
  simp only [Bool.and_eq_true, decide_eq_true_eq, List.all_eq_true, Bool.or_eq_true, beq_iff_eq, Bool.not_eq_true'] at h
  obtain ⟨⟨⟨⟨⟨⟨h1, h2⟩, h3⟩, h4⟩, h5⟩, h6⟩, h7⟩ := h
  exact ⟨h1, h2, h3, h4, h5, h6, fun y hy e => by
    have := h7 y hy
    rw [e] at this
    cases this⟩
structure DdOk (tb : Tb) (d : Dd) : Prop where
  tr : trBody tb d.N d.scope d.body = some d.is
  sc : scB d.N (d.ps ++ d.pv.toList) d.scope = true
  ix : (d.sh.all (ixB d.ps)) = true
  bd : ShOk d

/-! ### what the heap tells -/
mutual
def repB (K : PySem.W.Frag) : D → Value → Bool
  | .non, .none => true
  | .bl b, .bool c => b == c
  | .int i, .int j _ => decide (i = j)
  | .str x, .str y _ => decide (x = y)
  | .ty n, .type m => decide (n = m)
  | .glo x, .ref a => decide (a = He.ga K x)
  | .tup ds, .ref a => (match K.lookup a with
    | some ⟨.type c, _, .seq its _, _⟩ => decide (c = "tuple") && (decide (its.size ≤ sizeLine) && repsB K ds its.toList)
    | _ => false)
  | _, _ => false
def repsB (K : PySem.W.Frag) : List D → List Value → Bool
  | [], [] => true
  | d :: ds, u :: us => repB K d u && repsB K ds us
  | _, _ => false
end
def vOf : Value → V
  | .none => .non
  | .bool b => .bl b
  | .int i _ => .int i
  | .str x _ => .str x
  | .type n => .ty n
  | .ref a => .ref a
  | _ => .non
mutual
theorem repB_ok {K : PySem.W.Frag} {L : Lams} : ∀ (d : D) (u : Value), repB K d u = true → RelV (vOf u) u ∧ ∀ fz ph, Rep K L fz ph d (vOf u)
  | .non, u, h => by
    cases u <;> simp only [repB] at h <;> try cases h
    exact ⟨rfl, fun _ _ => by simp only [Rep, vOf]⟩
  | .bl b, u, h => by
    cases u <;> simp only [repB] at h <;> try cases h
    rename_i c
    have e : b = c := by simpa using h
    subst e
    exact ⟨rfl, fun _ _ => by simp only [Rep, vOf]⟩
  | .int i, u, h => by
    cases u <;> simp only [repB] at h <;> try cases h
    rename_i c t
    have e : i = c := by simpa using h
    subst e
    exact ⟨⟨t, rfl⟩, fun _ _ => by simp only [Rep, vOf]⟩
  | .str x, u, h => by
    cases u <;> simp only [repB] at h <;> try cases h
    rename_i c t
    have e : x = c := by simpa using h
    subst e
    exact ⟨⟨t, rfl⟩, fun _ _ => by simp only [Rep, vOf]⟩
  | .ty x, u, h => by
    cases u <;> simp only [repB] at h <;> try cases h
    rename_i c
    have e : x = c := by simpa using h
    subst e
    exact ⟨rfl, fun _ _ => by simp only [Rep, vOf]⟩
  | .glo x, u, h => by
    cases u <;> simp only [repB] at h <;> try cases h
    rename_i a
    have e : a = He.ga K x := by simpa using h
    subst e
    exact ⟨rfl, fun _ _ => by simp only [Rep, vOf]⟩
  | .tup ds, u, h => by
    cases u <;> simp only [repB] at h <;> try cases h
    rename_i a
    refine ⟨rfl, fun fz ph => ?_⟩
    cases q : K.lookup a with
    | none => rw [q] at h; cases h
    | some o =>
      obtain ⟨oc, od, dt, osl⟩ := o
      rw [q] at h
      cases oc with
      | type c =>
        cases dt with
        | seq its n =>
          simp only [Bool.and_eq_true, decide_eq_true_eq] at h
          obtain ⟨h1, h2, h3⟩ := h
          obtain ⟨r1, r2⟩ := repsB_ok (K := K) (L := L) ds its.toList h3
          simp only [Rep, vOf]
          exact ⟨a, its.toList.map vOf, rfl, .inr ⟨_, its, n, q, congrArg Value.type h1, rfl, h2, r1⟩, r2 fz ph⟩
        | _ => cases h
      | _ => cases dt <;> cases h
  | .lst ds, u, h => by cases u <;> simp only [repB] at h <;> cases h
  | .ins c fs, u, h => by cases u <;> simp only [repB] at h <;> cases h
  | .dK c, u, h => by cases u <;> simp only [repB] at h <;> cases h
  | .dT c, u, h => by cases u <;> simp only [repB] at h <;> cases h
  | .ref c, u, h => by cases u <;> simp only [repB] at h <;> cases h
  | .clo n c, u, h => by cases u <;> simp only [repB] at h <;> cases h
theorem repsB_ok {K : PySem.W.Frag} {L : Lams} : ∀ (ds : List D) (us : List Value), repsB K ds us = true → Vals (us.map vOf) us ∧ ∀ fz ph, Reps K L fz ph ds (us.map vOf)
  | [], us, h => by
    cases us with
    | nil => exact ⟨.nil, fun _ _ => by simp only [Reps, List.map_nil]⟩
    | cons u us => simp only [repsB] at h; cases h
  | d :: ds, us, h => by
    cases us with
    | nil => simp only [repsB] at h; cases h
    | cons u us =>
      simp only [repsB, Bool.and_eq_true] at h
      obtain ⟨r1, r2⟩ := repB_ok (K := K) (L := L) d u h.1
      obtain ⟨q1, q2⟩ := repsB_ok (K := K) (L := L) ds us h.2
      exact ⟨.cons r1 q1, fun fz ph => by
        simp only [Reps, List.map_cons]
        exact ⟨_, _, rfl, r2 fz ph, q2 fz ph⟩⟩
end
def gloB (K : PySem.W.Frag) (x : Str) (d : D) : Bool := match PySem.W.nsIn K mainGlobals x with
  | some (some u) => repB K d u
  | _ => false
def insB (K : PySem.W.Frag) : Tn → Bool
  | .ty _ => true
  | .own x => (He.Fa.cls x).ok K && He.eqO (PySem.W.findIn K (.ref (He.ga K x)) "__class__") (some (some (.builtin "object.__class__"))) && decide (PySem.W.specialIn K (.builtin "object.__class__") "__get__" = some (some (.builtin "getset_descriptor.__get__"))) && decide (PySem.W.takesIn K (.builtin "object.__class__") = some true) && decide (PySem.W.mroIn K (He.ga K x) (.type "object") = some true)
/-- the tables of a law, as data -/
structure Lw where
  dl : List Df
  fns : List (Str × Nat)
  meths : List (Str × List (Str × Nat))
  ops : List (Operator × List (Str × Nat))
  cls : List Str
  flds : List Str
  gl : List (Str × D)
  kit : Kit
  kd : List (Str × List (Str × D))
  mus : List (Nat × Nat)
  prps : List (Str × List (Str × Nat)) := []
  dun : Dun := ⟨[], []⟩
  xk : XK := []
  xm : XK := []
  xc : List Str := []
def kdOf (t : List (Str × List (Str × D))) (x : Str) (d : D) : Option D := match t.lookup x, d with
  | some kvs, .str z => kvs.lookup z
  | _, _ => none
def Lw.tb (l : Lw) : Tb := ⟨l.fns, l.meths, l.ops, l.cls, l.flds, l.gl, l.kit ++ kitBase, kdOf l.kd, l.mus, l.prps, l.dun, l.xk, l.xm, l.xc⟩
def kdB (K : PySem.W.Frag) (x : Str) (kvs : List (Str × D)) : Bool := kvs.all fun q => match PySem.W.nsIn K (He.ga K x) q.1 with
  | some (some u) => repB K q.2 u
  | _ => false
def Lw.adr (l : Lw) (K : PySem.W.Frag) (n : Nat) : Addr := match l.dl[n]? with
  | some df => df.adr K
  | none => 0
def Lw.atB (l : Lw) (K : PySem.W.Frag) (n : Nat) (a : Str × Option Str) : Bool := decide (l.adr K n = He.fAd K a)
def Lw.fnB (l : Lw) (K : PySem.W.Frag) (n : Nat) (x : Str) : Bool := decide (l.adr K n = He.ga K x)
def prB (K : PySem.W.Frag) (C f : Str) : Bool := He.eqO (PySem.W.findIn K (.ref (He.ga K C)) f) (some (some (.ref (He.ma K (He.ga K C) f)))) && decide (PySem.W.specialIn K (.ref (He.ma K (He.ga K C) f)) "__get__" = some (some (.builtin "property.__get__"))) &&
  decide (PySem.W.takesIn K (.ref (He.ma K (He.ga K C) f)) = some true) && (match PySem.W.recIn K (He.ma K (He.ga K C) f) "property" with
  | some (.ref _ :: _) => true
  | _ => false)
def xcB (K : PySem.W.Frag) (C : Str) : Bool := (He.Fa.glo C).ok K && (PySem.W.keepIn K (.ref (He.ga K C)) && (decide (PySem.W.subIn K (.ref (He.ga K C)) (.type "BaseException") = some true) && (decide (PySem.W.typeIn K (.ref (He.ga K C)) = some (.type "type")) &&
  (PySem.W.excIn K (He.ga K C) [.type "ValueError", .type "Exception", .type "BaseException", .type "object"] "ValueError.__new__" || (PySem.W.excIn K (He.ga K C) [.type "LookupError", .type "Exception", .type "BaseException", .type "object"] "LookupError.__new__" ||
    PySem.W.excIn K (He.ga K C) [.type "ArithmeticError", .type "Exception", .type "BaseException", .type "object"] "ArithmeticError.__new__")))))
def excB (K : PySem.W.Frag) (D : Addr) : Bool := He.eqO (PySem.W.findIn K (.ref D) "__getattribute__") (some (some (.builtin "BaseException.__getattribute__"))) && (He.eqO (PySem.W.findIn K (.ref D) "__getattr__") (some none) && (decide (PySem.W.subIn K (.ref D) (.type "BaseException") = some true) &&
  (PySem.W.hasDictIn K D && (He.eqO (PySem.W.findIn K (.ref D) "__class__") (some (some (.builtin "object.__class__"))) && (decide (PySem.W.specialIn K (.builtin "object.__class__") "__get__" = some (some (.builtin "getset_descriptor.__get__"))) &&
    (decide (PySem.W.takesIn K (.builtin "object.__class__") = some true) && decide (PySem.W.mroIn K D (.type "object") = some true)))))))
def xkB (K : PySem.W.Frag) (p : (Str × Str) × Bool) : Bool := excB K (He.ga K p.1.1) && (((He.Fa.glo p.1.2).ok K && decide (PySem.W.kitOne K (.ref (He.ga K p.1.1)) (.ref (He.ga K p.1.2)) = some p.2)) ||
  ((He.Fa.free p.1.2).ok K && (match bootBuiltins p.1.2 with
    | some (.type n) => decide (p.1.2 ≠ "__name__") && decide (PySem.W.kitOne K (.ref (He.ga K p.1.1)) (.type n) = some p.2)
    | _ => false)))
def xmB (K : PySem.W.Frag) (p : (Str × Str) × Bool) : Bool := (He.Fa.glo p.1.2).ok K && decide (PySem.W.exmOne K (.ref (He.ga K p.1.1)) (.ref (He.ga K p.1.2)) = some p.2)
def Lw.chk2 (l : Lw) (K : PySem.W.Frag) : Bool :=
  (l.prps.all fun p => p.2.all fun q => (He.Fa.cls q.1).ok K && (prB K q.1 p.1 && decide (l.adr K q.2 = prAd K q.1 p.1))) &&
  ((l.dun.has.all fun p => p.2.all fun q => (He.Fa.meth q.1 p.1).ok K && decide (l.adr K q.2 = He.ma K (He.ga K q.1) p.1)) &&
  ((l.dun.no.all fun p => p.2.all fun C => (He.Fa.noat C p.1).ok K) && (l.xk.all (xkB K) && (l.xm.all (xmB K) && l.xc.all (xcB K)))))
def Lw.chk (l : Lw) (K : PySem.W.Frag) : Bool :=
  ((l.dl.all fun df => match df with
    | .fn d => okA K (d.adr K) d.qual
    | .mk C i => (He.Fa.mkr C).ok K && l.atB K i (C, some "__init__")) &&
  (l.fns.all fun p => (He.Fa.glo p.1).ok K && ((He.Fa.keep p.1).ok K && l.fnB K p.2 p.1)) &&
  (l.meths.all fun p => p.2.all fun q => (He.Fa.cls q.1).ok K && ((He.Fa.meth q.1 p.1).ok K && l.atB K q.2 (q.1, some p.1))) &&
  (l.ops.all fun p => p.2.all fun q => (He.Fa.cls q.1).ok K && (PySem.W.selfFirst K (He.ga K q.1) && ((He.Fa.meth q.1 (PySem.dunder p.1.info.2)).ok K && l.atB K q.2 (q.1, some (PySem.dunder p.1.info.2)))))) &&
  ((l.cls.all fun C => (He.Fa.cls C).ok K && l.flds.all fun f => (He.Fa.noat C f).ok K) &&
  (l.gl.all fun p => gloB K p.1 p.2) &&
  (bNames.all fun x => (He.Fa.free x).ok K) &&
  (l.kit.all fun p => decide (PySem.W.kitOne K (p.1.1.val K) (p.1.2.val K) = some p.2) && insB K p.1.1) &&
  (l.kd.all fun p => kdB K p.1 p.2) && l.chk2 K)
abbrev AlL : Type := Bool × List He.FnW × List (Option (List (Option (Str × Int))))
def Lw.fnl (l : Lw) : List Dd := l.dl.filterMap fun df => match df with
  | .fn d => some d
  | .mk _ _ => none
def Lw.obs (l : Lw) (K : PySem.W.Frag) : AlL := (l.chk K, l.fnl.map fun d => fnA K (d.adr K), l.kd.map fun p => He.dicW K (He.ga K p.1))
def Lw.val (l : Lw) (w : World) : AlL := (true, l.fnl.map fun d => d.val, l.kd.map fun p => some (He.keysIn w.params (p.2.map (·.1))))
def Lw.Says (l : Lw) (w : World) (K : PySem.W.Frag) : Prop := l.obs K = l.val w
/-- the module's part of the heap without its lists -/
def isLst (o : Obj) : Bool := match o.cls with
  | .type n => n == "list"
  | _ => false
def frN (g : Addr → Option Obj) (as : List Addr) : PySem.W.Frag := as.filterMap fun a => match g a with
  | some o => (match isLst o with
    | true => none
    | false => some (a, o))
  | none => none
theorem frN_mem {g : Addr → Option Obj} {as : List Addr} {a : Addr} {o : Obj} (h : (a, o) ∈ frN g as) : g a = some o ∧ isLst o = false := by
  obtain ⟨b, _, e⟩ := List.mem_filterMap.mp h
  cases q : g b with
  | none => rw [q] at e; cases e
  | some o' =>
    rw [q] at e
    have e : (match isLst o' with
      | true => none
      | false => some (b, o')) = some (a, o) := e
    cases z : isLst o' with
    | true => rw [z] at e; cases e
    | false =>
      rw [z] at e
      cases e
      exact ⟨q, z⟩
theorem lookup_mem' {K : PySem.W.Frag} {a : Addr} {o : Obj} (h : K.lookup a = some o) : (a, o) ∈ K := by
  induction K with
  | nil => cases h
  | cons p l ih =>
    obtain ⟨y, c⟩ := p
    have h2 : (match a == y with | true => some c | false => l.lookup a) = some o := h
    cases q : (a == y) with
    | true =>
      rw [q] at h2
      cases h2
      rw [beq_iff_eq.mp q]
      exact List.mem_cons_self ..
    | false =>
      rw [q] at h2
      exact List.mem_cons_of_mem _ (ih h2)
def NoLst (K : PySem.W.Frag) : Prop := ∀ a o, K.lookup a = some o → isLst o = false
theorem frN_in {as : List Addr} {h : Heap} : (frN h.get? as).In h := fun _ _ e => (frN_mem (lookup_mem' e)).1
theorem frN_no {g : Addr → Option Obj} {as : List Addr} : NoLst (frN g as) := fun _ _ e => (frN_mem (lookup_mem' e)).2
def Lw.obsG (l : Lw) (n : Nat) (g : Addr → Option Obj) : AlL := l.obs (frN g (He.asD g n))
def Lw.hook (l : Lw) (n : Nat) : PySem.W.Hook where
  α := AlL
  obs := fun s => l.obsG n s.heap.get?
  val := fun w => l.val w
  says := fun w h => ∃ K : PySem.W.Frag, K.In h ∧ NoLst K ∧ l.Says w K
  of := fun _ _ e => ⟨_, frN_in, frN_no, e⟩
  keeps := fun _ _ _ ⟨K, hK, c⟩ k => ⟨K, PySem.W.Frag.In.keeps hK k, c⟩
theorem Lw.obs_eq {l : Lw} {n : Nat} {g : Addr → Option Obj} {s : Shared} (h : ∀ a, g a = s.heap.get? a) : l.obsG n g = (l.hook n).obs s := by
  have e : g = s.heap.get? := funext h
  rw [e] <;> rfl
end DV

namespace DV
open PySem PySem.Spec PyProof.Rows L2
theorem band {a b : Bool} (h : (a && b) = true) : a = true ∧ b = true := Bool.and_eq_true_iff.mp h
theorem look_mem {α β : Type} [BEq α] [LawfulBEq α] {l : List (α × β)} {x : α} {b : β} (h : l.lookup x = some b) : (x, b) ∈ l := by
  induction l with
  | nil => cases h
  | cons p l ih =>
    obtain ⟨y, c⟩ := p
    rw [List.lookup_cons] at h
    split at h
    · rename_i e
      cases h
      rw [eq_of_beq e]
      exact List.mem_cons_self ..
    · exact List.mem_cons_of_mem _ (ih h)
section
variable {l : Lw} {T : Pa} {P : Program} {w : World} {mg : Str → Option Value} {base : Heap}
theorem atB_ok {n : Nat} {a : Str × Option Str} {K : PySem.W.Frag} (h : l.atB K n a = true) : l.adr K n = He.fAd K a := of_decide_eq_true h
theorem fnB_ok {n : Nat} {x : Str} {K : PySem.W.Frag} (h : l.fnB K n x = true) : l.adr K n = He.ga K x := of_decide_eq_true h
structure Lw.Ck (l : Lw) (K : PySem.W.Frag) : Prop where
  dl : ∀ df ∈ l.dl, (match df with
    | .fn d => okA K (d.adr K) d.qual
    | .mk C i => (He.Fa.mkr C).ok K && l.atB K i (C, some "__init__")) = true
  fns : ∀ p ∈ l.fns, ((He.Fa.glo p.1).ok K && ((He.Fa.keep p.1).ok K && l.fnB K p.2 p.1)) = true
  me : ∀ p ∈ l.meths, ∀ q ∈ p.2, ((He.Fa.cls q.1).ok K && ((He.Fa.meth q.1 p.1).ok K && l.atB K q.2 (q.1, some p.1))) = true
  op : ∀ p ∈ l.ops, ∀ q ∈ p.2, ((He.Fa.cls q.1).ok K && (PySem.W.selfFirst K (He.ga K q.1) && ((He.Fa.meth q.1 (PySem.dunder p.1.info.2)).ok K && l.atB K q.2 (q.1, some (PySem.dunder p.1.info.2))))) = true
  at_ : ∀ C ∈ l.cls, ((He.Fa.cls C).ok K && l.flds.all fun f => (He.Fa.noat C f).ok K) = true
  gl : ∀ p ∈ l.gl, gloB K p.1 p.2 = true
  bn : ∀ x ∈ bNames, (He.Fa.free x).ok K = true
  kit : ∀ p ∈ l.kit, (decide (PySem.W.kitOne K (p.1.1.val K) (p.1.2.val K) = some p.2) && insB K p.1.1) = true
  kd : ∀ p ∈ l.kd, kdB K p.1 p.2 = true
  more : l.chk2 K = true
theorem Lw.Says.ck {K : PySem.W.Frag} (c : l.Says w K) : l.Ck K := by
  have c1 : l.chk K = true := congrArg (fun z : AlL => z.1) c
  unfold Lw.chk at c1
  obtain ⟨c1, c2⟩ := band c1
  obtain ⟨c1, h4⟩ := band c1
  obtain ⟨c1, h3⟩ := band c1
  obtain ⟨h1, h2⟩ := band c1
  obtain ⟨c2, h10⟩ := band c2
  obtain ⟨c2, h9⟩ := band c2
  obtain ⟨c2, h8⟩ := band c2
  obtain ⟨c2, h7⟩ := band c2
  obtain ⟨h5, h6⟩ := band c2
  exact ⟨List.all_eq_true.mp h1, List.all_eq_true.mp h2, fun p hp => List.all_eq_true.mp (List.all_eq_true.mp h3 p hp), fun p hp => List.all_eq_true.mp (List.all_eq_true.mp h4 p hp),
    List.all_eq_true.mp h5, List.all_eq_true.mp h6, List.all_eq_true.mp h7, List.all_eq_true.mp h8, List.all_eq_true.mp h9, h10⟩
theorem Lw.Says.fnd {K : PySem.W.Frag} (c : l.Says w K) {d : Dd} (hd : d ∈ l.fnl) : fnA K (d.adr K) = d.val := by
  have e : l.fnl.map (fun d => fnA K (d.adr K)) = l.fnl.map fun d => d.val := congrArg (fun z : AlL => z.2.1) c
  obtain ⟨i, hi, e1⟩ := List.mem_iff_getElem.mp hd
  have e2 : (l.fnl.map (fun d => fnA K (d.adr K)))[i]? = (l.fnl.map fun d => d.val)[i]? := by rw [e]
  rw [List.getElem?_map, List.getElem?_map, List.getElem?_eq_getElem hi, e1] at e2
  exact Option.some.inj e2
theorem Lw.Says.tab {K : PySem.W.Frag} (c : l.Says w K) {p : Str × List (Str × D)} (hp : p ∈ l.kd) : ∃ es n, KDict K w (He.ga K p.1) es n := by
  have e : l.kd.map (fun p => He.dicW K (He.ga K p.1)) = l.kd.map fun p => some (He.keysIn w.params (p.2.map (·.1))) := congrArg (fun z : AlL => z.2.2) c
  obtain ⟨i, hi, e1⟩ := List.mem_iff_getElem.mp hp
  have e2 : (l.kd.map (fun p => He.dicW K (He.ga K p.1)))[i]? = (l.kd.map fun p => some (He.keysIn w.params (p.2.map (·.1))))[i]? := by rw [e]
  rw [List.getElem?_map, List.getElem?_map, List.getElem?_eq_getElem hi, e1] at e2
  exact He.dicW_ok (Option.some.inj e2)
theorem mem_fnl {d : Dd} (h : Df.fn d ∈ l.dl) : d ∈ l.fnl := List.mem_filterMap.mpr ⟨_, h, rfl⟩
theorem insB_ok {K : PySem.W.Frag} {x : Str} (h : insB K (.own x) = true) : InsTy K (He.ga K x) := by
  unfold insB at h
  obtain ⟨h, h5⟩ := band h
  obtain ⟨h, h4⟩ := band h
  obtain ⟨h, h3⟩ := band h
  obtain ⟨h1, h2⟩ := band h
  exact ⟨He.cls_ok h1, He.eqO_ok h2, of_decide_eq_true h3, of_decide_eq_true h4, of_decide_eq_true h5⟩
theorem defOk_of {K : PySem.W.Frag} {d : Dd} (hT : T.K = K) (e : fnA K (d.adr K) = d.val) (c : okA K (d.adr K) d.qual = true) (S : scB d.N (d.ps ++ d.pv.toList) d.scope = true) :
    ∃ (fd : FuncData) (kV doc pm cdv ct : Value) (an : Option Addr), fd = PySem.W.fnOf d.name d.qual d.params d.body d.scope .none kV doc pm an cdv ct ∧ DefOk T (d.adr K) d.name d.qual d.params d.body d.scope d.N (d.ps ++ d.pv.toList) fd := by
  unfold okA at c
  obtain ⟨_, c⟩ := band c
  unfold fnA at e
  cases q : K.lookup (d.adr K) with
  | none => rw [q] at c; cases c
  | some o =>
    obtain ⟨oc, od, dt, osl⟩ := o
    rw [q] at c e
    cases dt with
    | func fd =>
      obtain ⟨x1, x2, x3, x4, x5, x6, x7, x8, x9, x10, x11, x12, x13, x14, x15⟩ := fd
      obtain ⟨c1, c2⟩ := band (show (PySem.W.codeIn K x13 d.qual && noneB x8) = true from c)
      have e8 : x8 = .none := by
        cases x8 <;> first | rfl | cases c2
      have e : (some (x1, x2, x3, x4, x5, x6, x7, x15) : He.FnW) = some (d.name, d.qual, d.params, .stmts d.body, d.scope, mainGlobals, [], builtinsNs) := e
      simp only [Option.some.injEq, Prod.mk.injEq] at e
      obtain ⟨y1, y2, y3, y4, y5, y6, y7, y8⟩ := e
      subst y1 y2 y3 y4 y5 y6 y7 y8 e8
      exact ⟨_, x9, x10, x11, x13, x14, x12, rfl, oc, .none, x9, x10, x11, x13, x14, x12, od, osl, by rw [hT]; exact q, rfl, by rw [hT]; exact c1, scB_ok S⟩
    | _ => cases c
theorem bindA_of {d : Dd} {kV doc pm cdv ct : Value} {an : Option Addr} (hp : d.pv = none) (hs : ShOk d) (hi : d.sh.all (ixB d.ps) = true) : ∀ p ∈ d.sh, BindA (PySem.W.fnOf d.name d.qual d.params d.body d.scope .none kV doc pm an cdv ct) d.ps p.1 p.2.1 p.2.2 := fun p hm => by
  have h1 := hs kV doc pm cdv ct an
  rw [hp] at h1
  have h2 := AllL.to h1 p hm
  have h3 := List.all_eq_true.mp hi p hm
  unfold ixB at h3
  obtain ⟨h4, h5⟩ := band h3
  exact ⟨fun us zs e1 e2 => AllV.to (AllV.to h2 us e1) zs e2, of_decide_eq_true h4, fun i hi => of_decide_eq_true (List.all_eq_true.mp h5 i hi)⟩
theorem bindS_of {d : Dd} {pv : Str} {kV doc pm cdv ct : Value} {an : Option Addr} (hp : d.pv = some pv) (hs : ShOk d) (hi : d.sh.all (ixB d.ps) = true) : ∀ p ∈ d.sh, BindS (PySem.W.fnOf d.name d.qual d.params d.body d.scope .none kV doc pm an cdv ct) d.ps pv p.1 p.2.1 p.2.2 := fun p hm => by
  have h1 := hs kV doc pm cdv ct an
  rw [hp] at h1
  have h2 := AllL.to h1 p hm
  have h3 := List.all_eq_true.mp hi p hm
  obtain ⟨ks, n, ix⟩ := p
  unfold ixB at h3
  obtain ⟨h4, h5⟩ := band h3
  refine ⟨fun us rest zs e1 e2 e3 => ?_, of_decide_eq_true h4, fun i hi => of_decide_eq_true (List.all_eq_true.mp h5 i hi)⟩
  cases ks with
  | nil =>
    have e4 : zs = [] := by simpa using e2
    subst e4
    have h6 := AllV.to h2 us e1 rest
    simpa using h6
  | cons k ks =>
    have e4 : rest = [] := e3 (by simp)
    subst e4
    have h6 := AllV.to (AllV.to h2 us e1) zs (by simpa using e2)
    simpa using h6
theorem excB_ok {K : PySem.W.Frag} {D : Addr} (h : excB K D = true) : ExcC K D := by
  unfold excB at h
  obtain ⟨h1, h⟩ := band h
  obtain ⟨h2, h⟩ := band h
  obtain ⟨h3, h⟩ := band h
  obtain ⟨h4, h⟩ := band h
  obtain ⟨h5, h⟩ := band h
  obtain ⟨h6, h⟩ := band h
  obtain ⟨h7, h8⟩ := band h
  exact ⟨He.eqO_ok h1, He.eqO_ok h2, of_decide_eq_true h3, h4, He.eqO_ok h5, of_decide_eq_true h6, of_decide_eq_true h7, of_decide_eq_true h8⟩
/-- what stands in the heap behind the top -/
structure LwG (l : Lw) (T : Pa) (w : World) (mg : Str → Option Value) (base : Heap) : Prop where
  K : T.K.In base
  ns : base.Ns mainGlobals mg
  says : l.Says w T.K
  hx : T.hx = none
section
variable (g : LwG l T w mg base) (st : ∀ d, Df.fn d ∈ l.dl → DdOk l.tb d)
include g in
theorem tbOk_of {N : List Str} {k : Nat} {G : Gam} (ih : ∀ n kws, FnG T P w mg base k (l.adr T.K n) kws (G n kws)) : TbOk ⟨T, P, w, mg, base, N, k, G⟩ l.tb := by
  have ck := g.says.ck
  obtain ⟨ckp, ckd⟩ := band ck.more
  obtain ⟨ckd, ckn⟩ := band ckd
  obtain ⟨ckn, ckx⟩ := band ckn
  obtain ⟨ckk, ckx⟩ := band ckx
  obtain ⟨ckm, ckc⟩ := band ckx
  refine ⟨fun x d h => ?_, fun x hx => ?_, fun x d e h => ?_, fun t u b h => ?_, fun x n h => ?_, fun m C n h => ?_, fun o C n h => ?_, fun f h C hC => ?_, fun f C n h => ?_, ⟨fun m C n h => ?_, fun m C h => ?_⟩, ⟨fun cn g' b h => ?_⟩, ⟨fun cn g' b h => ?_⟩, fun C h => ?_⟩
  · have h1 := ck.gl _ (look_mem h)
    unfold gloB at h1
    split at h1
    · rename_i u e
      obtain ⟨r1, r2⟩ := repB_ok (K := T.K) (L := T.L) d u h1
      exact ⟨u, _, PySem.W.mg_of g.K g.ns e, r1, r2⟩
    · cases h1
  · exact He.free_ok g.K g.ns (ck.bn x hx)
  · replace h : kdOf l.kd x d = some e := h
    unfold kdOf at h
    split at h
    · rename_i kvs z e1
      have hm := look_mem e1
      obtain ⟨es, n, q1, q2, q3⟩ := g.says.tab hm
      have h2 := List.all_eq_true.mp (ck.kd _ hm) _ (look_mem h)
      simp only at h2
      split at h2
      · rename_i u e2
        obtain ⟨r1, r2⟩ := repB_ok (K := T.K) (L := T.L) e u h2
        exact ⟨z, _, rfl, r2, es, n, u, q1, q2, e2, r1⟩
      · cases h2
    · cases h
  · have h : (l.kit ++ kitBase).lookup (t, u) = some b := h
    rcases List.mem_append.mp (look_mem h) with hm | hm
    · obtain ⟨h1, h2⟩ := band (ck.kit _ hm)
      exact ⟨of_decide_eq_true h1, fun n e => insB_ok (by rw [← e]; exact h2)⟩
    · have hl : kitBase.lookup (t, u) = some b := by
        rw [List.lookup_append] at h
        cases q : l.kit.lookup (t, u) with
        | none => rw [q] at h; exact h
        | some b' =>
          rw [q] at h
          have e : b' = b := Option.some.inj h
          subst e
          obtain ⟨h1, h2⟩ := band (ck.kit _ (look_mem q))
          have h1 := of_decide_eq_true h1
          obtain ⟨h3, _⟩ := kit_base (c := ⟨T, P, w, mg, base, N, k, G⟩) t u (kitBase.lookup (t, u) |>.getD b') (by
            cases q2 : kitBase.lookup (t, u) with
            | none =>
              exfalso
              rw [List.lookup_eq_none_iff] at q2
              have := q2 _ hm
              simp at this
            | some b2 => rfl)
          cases q2 : kitBase.lookup (t, u) with
          | none =>
            exfalso
            rw [List.lookup_eq_none_iff] at q2
            have := q2 _ hm
            simp at this
          | some b2 =>
            rw [q2] at h3
            have h1 : PySem.W.kitOne T.K (t.val T.K) (u.val T.K) = some b' := h1
            have h3 : PySem.W.kitOne T.K (t.val T.K) (u.val T.K) = some b2 := h3
            rw [h1] at h3
            cases h3
            rfl
      exact kit_base (c := ⟨T, P, w, mg, base, N, k, G⟩) t u b hl
  · have h : l.fns.lookup x = some n := h
    obtain ⟨h1, h2⟩ := band (ck.fns _ (look_mem h))
    obtain ⟨h2, h3⟩ := band h2
    refine ⟨He.glo_ok g.K g.ns h1, He.keep_ok h2, fun kws => ?_⟩
    have z := ih n kws
    rw [fnB_ok h3] at z
    exact z
  · have h : ((l.meths.lookup m).getD []).lookup C = some n := h
    cases q : l.meths.lookup m with
    | none => rw [q] at h; cases h
    | some tab =>
      rw [q] at h
      obtain ⟨h1, h2⟩ := band (ck.me _ (look_mem q) _ (look_mem h))
      obtain ⟨h2, h3⟩ := band h2
      refine ⟨_, He.cls_ok h1, He.meth_ok h2, fun kws => ?_⟩
      have z := ih n kws
      rw [atB_ok h3] at z
      exact z
  · have h : ((l.ops.lookup o).getD []).lookup C = some n := h
    cases q : l.ops.lookup o with
    | none => rw [q] at h; cases h
    | some tab =>
      rw [q] at h
      obtain ⟨h1, h2⟩ := band (ck.op _ (look_mem q) _ (look_mem h))
      obtain ⟨h2, h3⟩ := band h2
      obtain ⟨h3, h4⟩ := band h3
      have m := He.meth_ok h3
      obtain ⟨m1, m2, m3⟩ := m
      have z := ih n []
      rw [atB_ok h4] at z
      exact ⟨_, He.cls_ok h1, h2, m1, m2, z⟩
  · have hC : l.cls.contains C = true := hC
    have h : l.flds.contains f = true := h
    have h1 := ck.at_ C (by simpa using hC)
    obtain ⟨h1, h2⟩ := band h1
    exact ⟨He.cls_ok h1, He.noat_ok (List.all_eq_true.mp h2 f (by simpa using h))⟩
  · have h : ((l.prps.lookup f).getD []).lookup C = some n := h
    cases q : l.prps.lookup f with
    | none => rw [q] at h; cases h
    | some tab =>
      rw [q] at h
      have z := List.all_eq_true.mp (List.all_eq_true.mp ckp _ (look_mem q)) _ (look_mem h)
      obtain ⟨z1, z2⟩ := band z
      obtain ⟨z2, z3⟩ := band z2
      have z3 := of_decide_eq_true z3
      obtain ⟨p1, p4⟩ := band z2
      obtain ⟨p1, p3⟩ := band p1
      obtain ⟨p1, p2⟩ := band p1
      have i := ih n []
      rw [z3] at i
      refine ⟨_, _, He.cls_ok z1, ⟨He.eqO_ok p1, of_decide_eq_true p2, of_decide_eq_true p3, ?_⟩, i⟩
      dsimp only at p4 ⊢
      unfold prAd
      split at p4
      · rename_i g rest e
        exact ⟨rest, by rw [e]⟩
      · cases p4
  · have h : ((l.dun.has.lookup m).getD []).lookup C = some n := h
    cases q : l.dun.has.lookup m with
    | none => rw [q] at h; cases h
    | some tab =>
      rw [q] at h
      have z := List.all_eq_true.mp (List.all_eq_true.mp ckd _ (look_mem q)) _ (look_mem h)
      obtain ⟨z1, z2⟩ := band z
      have z2 := of_decide_eq_true z2
      obtain ⟨m1, m2, m3⟩ := He.meth_ok z1
      have i := ih n []
      rw [z2] at i
      exact ⟨_, m1, m2, i⟩
  · have h : ((l.dun.no.lookup m).getD []).contains C = true := h
    cases q : l.dun.no.lookup m with
    | none => rw [q] at h; cases h
    | some tab =>
      rw [q] at h
      have h : tab.contains C = true := h
      have z := List.all_eq_true.mp (List.all_eq_true.mp ckn _ (look_mem q)) C (by simpa using h)
      exact He.noat_ok z
  · have z := List.all_eq_true.mp ckk _ (look_mem (show l.xk.lookup (cn, g') = some b from h))
    obtain ⟨z1, z2⟩ := band z
    refine ⟨excB_ok z1, ?_⟩
    rcases Bool.or_eq_true_iff.mp z2 with z2 | z2
    · obtain ⟨z3, z4⟩ := band z2
      exact ⟨_, .inl ⟨He.glo_ok g.K g.ns z3, rfl⟩, of_decide_eq_true z4⟩
    · obtain ⟨z3, z4⟩ := band z2
      dsimp only at z4
      split at z4
      · rename_i n e
        obtain ⟨z5, z6⟩ := band z4
        exact ⟨_, .inr ⟨He.free_ok g.K g.ns z3, n, e, rfl, of_decide_eq_true z5⟩, of_decide_eq_true z6⟩
      · cases z4
  · have z := List.all_eq_true.mp ckm _ (look_mem (show l.xm.lookup (cn, g') = some b from h))
    obtain ⟨z1, z2⟩ := band z
    exact ⟨He.glo_ok g.K g.ns z1, of_decide_eq_true z2⟩
  · have h : l.xc.contains C = true := h
    have z := List.all_eq_true.mp ckc C (by simpa using h)
    obtain ⟨z1, z⟩ := band z
    obtain ⟨z2, z⟩ := band z
    obtain ⟨z3, z⟩ := band z
    obtain ⟨z4, z⟩ := band z
    refine ⟨?_, He.glo_ok g.K g.ns z1, z2, of_decide_eq_true z3, of_decide_eq_true z4⟩
    rcases Bool.or_eq_true_iff.mp z with z | z
    · exact ⟨_, _, _, _, PySem.F.excBase_ValueError, z⟩
    · rcases Bool.or_eq_true_iff.mp z with z | z
      · exact ⟨_, _, _, _, PySem.F.excBase_LookupError, z⟩
      · exact ⟨_, _, _, _, PySem.F.excBase_ArithmeticError, z⟩
include g st in
theorem all_ok : ∀ k n kws, FnG T P w mg base k (l.adr T.K n) kws (sem l.tb l.dl k n kws)
  | 0, n, kws => by
    have e : sem l.tb l.dl 0 n kws = fun _ _ => R.stuck := by funext a b; rfl
    rw [e]
    exact FnG.stuck
  | k + 1, n, kws => by
    have ck := g.says.ck
    have ih := all_ok k
    have e : sem l.tb l.dl (k + 1) n = match l.dl[n]? with
      | some df => df.sem l.tb (sem l.tb l.dl k)
      | none => fun _ _ _ => .stuck := rfl
    rw [e]
    unfold Lw.adr
    cases q : l.dl[n]? with
    | none => exact FnG.stuck
    | some df =>
      have hm := List.mem_of_getElem? q
      cases df with
      | fn d =>
        have hd := st d hm
        have tb := tbOk_of (P := P) (N := d.N) (G := sem l.tb l.dl k) g ih
        obtain ⟨fd, kV, doc, pm, cdv, ct, an, efd, D⟩ := defOk_of (T := T) rfl (g.says.fnd (mem_fnl hm)) (ck.dl _ hm) hd.sc
        have hb : SSs ⟨T, P, w, mg, base, d.N, k, sem l.tb l.dl k⟩ d.scope d.body (denB l.tb (sem l.tb l.dl k) d.is) := trBody_ok tb hd.tr
        show FnG T P w mg base (k + 1) (d.adr T.K) kws (defP d.sh d.pv.isSome d.N (denB l.tb (sem l.tb l.dl k) d.is) kws)
        cases hp : d.pv with
        | none =>
          rw [hp] at D
          have D : DefOk T (d.adr T.K) d.name d.qual d.params d.body d.scope d.N d.ps fd := by simpa using D
          subst efd
          exact fnG_def (c := ⟨T, P, w, mg, base, d.N, k, sem l.tb l.dl k⟩) D hb g.hx rfl rfl rfl rfl rfl rfl (bindA_of hp hd.bd hd.ix) kws
        | some pv =>
          rw [hp] at D
          have D : DefOk T (d.adr T.K) d.name d.qual d.params d.body d.scope d.N (d.ps ++ [pv]) fd := D
          subst efd
          exact fnG_star (c := ⟨T, P, w, mg, base, d.N, k, sem l.tb l.dl k⟩) D hb g.hx rfl rfl rfl rfl rfl rfl (bindS_of hp hd.bd hd.ix) kws
      | mk C i =>
        obtain ⟨h1, h2⟩ := band (ck.dl _ hm)
        have z := ih i kws
        rw [atB_ok h2] at z
        exact fnG_make (He.mkr_ok h1) z
end
end
end DV

namespace DV
open PySem PySem.Spec PyProof.Rows L2
theorem reps_ints {K : PySem.W.Frag} {L : Lams} {fz : Hp} {ph : List Addr} : ∀ ns : List Int, Reps K L fz ph (ns.map D.int) (ns.map V.int)
  | [] => by simp only [Reps, List.map_nil]
  | n :: ns => by
    simp only [Reps, List.map_cons]
    exact ⟨_, _, rfl, by simp only [Rep], reps_ints ns⟩
/-- the law's call, from what its def is worth -/
theorem law_callG {P : Program} {w : World} {T : Pa} {mg mb : Str → Option Value} {k : Nat} {fa a : Addr} {gF : Fn} {s₁ : Shared} {vs : List Value} {ns : List Int} (hT : T.tabs = [])
    (KX : T.K.In s₁.heap) (nl : NoLst T.K) (hns : s₁.heap.Ns mainGlobals mg) (hb : s₁.heap.Ns builtinsNs mb) (hbb : ∀ x : Str, x ≠ "__name__" → mb x = bootBuiltins x) (hlim : s₁.heap.NoLimit) (hg : s₁.gens = #[])
    (ha : s₁.heap.get? a = some { cls := .type "list", data := .seq vs.toArray }) (hi : IntsAre vs ns) (hl : ns.length ≤ sizeLine) (hr : Room k callerA)
    (F : ∀ base : Heap, T.K.In base → base.Ns mainGlobals mg → FnG T P w mg base k fa [] gF) (hsp : ∃ st, gF [.lst (ns.map .int)] [] = .ok (.bl true) st) :
    codeAny (model P w) callerA (.call (.ref fa) ⟨[.ref a], []⟩) (fun r s' => r = .ok (.ret (.bool true)) ∧ OldK s₁.heap s'.heap ∧ s'.os = s₁.os ∧ AllBare s'.gens) s₁ := by
  have rv := vals_ints hi
  have lenV := hi.length
  have hK : T.K.lookup a = none := by
    cases q : T.K.lookup a with
    | none => rfl
    | some o =>
      have e := KX a o q
      rw [ha] at e
      cases e
      have := nl a _ q
      cases this
  obtain ⟨H, hH⟩ : ∃ H : Hp, H = fun b => if b = a then some (.frz { cls := .type "list", data := .seq vs.toArray } (.lst (ns.map V.int))) else none := ⟨_, rfl⟩
  have hHa : H a = some (.frz { cls := .type "list", data := .seq vs.toArray } (.lst (ns.map V.int))) := by rw [hH]; exact if_pos rfl
  have hO : ∀ b u, H b = some u → b = a ∧ u = .frz { cls := .type "list", data := .seq vs.toArray } (.lst (ns.map V.int)) := fun b u z => by
    rw [hH] at z
    by_cases hb : b = a
    · have z' := (if_pos hb).symm.trans z
      cases z'
      exact ⟨hb, rfl⟩
    · have z' := (if_neg hb).symm.trans z
      cases z'
  have hok : HOk P w H s₁.heap := fun b u z => by
    obtain ⟨e1, e2⟩ := hO b u z
    subst e1 e2
    exact ⟨ha, by rw [List.length_map]; exact hl, vs, _, rv, ha⟩
  have hA : ∀ b, H b ≠ none → b = a := fun b z => by
    cases q : H b with
    | none => exact absurd q z
    | some u => exact (hO b u q).1
  have base_of : ∀ {b : Addr} {o : Obj}, s₁.heap.get? b = some o → H b = none → (hidT s₁.heap H).get? b = some o := fun e n => hidT_get e n
  have noA : ∀ {b : Addr} {o : Obj} {es : Array DictEntry} {ep : Nat}, s₁.heap.get? b = some o → o.data = .dict es ep → H b = none := fun {b o es ep} e d => by
    cases q : H b with
    | none => rfl
    | some u =>
      have e' : b = a := hA b (by rw [q]; simp)
      subst e'
      rw [ha] at e; cases e
      have d' : Data.seq vs.toArray _ = Data.dict es ep := d
      cases d'
  have nsK : ∀ {b : Addr} {m : Str → Option Value}, s₁.heap.Ns b m → (hidT s₁.heap H).Ns b m := fun {b m} ⟨o, es, ep, e, d, r⟩ => ⟨o, es, ep, base_of e (noA e d), d, r⟩
  have hKb : T.K.In (hidT s₁.heap H) := fun b o e => base_of (KX b o e) (by
    cases q : H b with
    | none => rfl
    | some u =>
      have e' : b = a := hA b (by rw [q]; simp)
      subst e'
      rw [hK] at e; cases e)
  have hM : Mod T.K mg (hidT s₁.heap H) := ⟨hKb, nsK hns, ⟨mb, nsK hb, hbb⟩, let ⟨mc, h1, h2⟩ := hlim; ⟨mc, nsK h1, h2⟩⟩
  have e0 : Env0 P w T.K mg (hidT s₁.heap H) callerA [] s₁ H := ⟨rfl, hM, fun b o e => of_hidT e, Nat.le_of_eq (hidT_size _ _), trivial, fun b hb => absurd (show b ∈ ([] : List Addr) from hb) (by simp), hok, .of_eq hg⟩
  have so : SOk T H [] [] H := ⟨fun _ _ z => z, rfl, fun i o b z => (by simp at z), List.nodup_nil, fun i o b z => (by simp at z), by rw [hT]; exact fun p hp => (nomatch hp), fun b ps z => by
    obtain ⟨_, e2⟩ := hO b _ z
    cases e2⟩
  obtain ⟨st', hsp⟩ := hsp
  have rd : Reps T.K T.L H [] [D.lst (ns.map .int)] ([V.ref a] ++ []) := by
    simp only [Reps, List.append_nil]
    exact ⟨_, _, rfl, by
      simp only [Rep]
      exact ⟨a, ns.map V.int, rfl, .inr ⟨_, hHa⟩, reps_ints ns⟩, rfl⟩
  have go := F _ hKb (nsK hns) callerA [] s₁ H [.ref a] [] [.ref a] [] (fun v _ => v = .bl true) (fun _ _ _ => False) H [] [] [.lst (ns.map .int)] hr rfl e0 (.cons rfl .nil) .nil rfl so rd (by
    rw [hsp]
    exact fun f p H' u x s' r' => by simpa only [Rep] using r')
  refine codeAny_mono go fun r s' h => ?_
  cases r with
  | error e =>
    obtain ⟨_, B, H', cls, d, _, _, _, _, _, _, _, z⟩ := h
    exact z.elim
  | ok fl =>
    cases fl with
    | next => exact False.elim h
    | brk => exact False.elim h
    | cont => exact False.elim h
    | ret u =>
      obtain ⟨v, H', os, bare, un, hok', r', q⟩ := h
      have q' : v = .bl true := q
      subst q'
      obtain rfl : u = Value.bool true := r'
      refine ⟨rfl, OldK.of_keep fun b o e => ?_, os, bare⟩
      cases q : H b with
      | none => exact un.keep b o e q (by intro z; exact absurd (show b ∈ ([] : List Addr) from z) (by simp)) (by simp)
      | some u =>
        obtain ⟨z1, z2⟩ := hO b u q
        subst z1 z2
        have z2 := un.frzs _ _ _ q
        obtain ⟨e1, _⟩ := hok _ _ q
        obtain ⟨e2, _⟩ := hok' _ _ z2
        rw [e] at e1; cases e1
        exact e2
/-- a law, from its head and what its def is worth -/
theorem walk_ofG {l : PySem.W.OpenLaw} {n m k i : Nat} {q : Program} {loose : List Str} {XP : (Str → Option Value) → Heap → Prop} {d : DefRec} {lw : Lw} (hn : l.most = some n) (hn2 : n ≤ sizeLine) (hdf : d.params.defaults = []) (hr : Room k callerA)
    (hgl : lw.fns.lookup d.name = some i) (st : ∀ d, Df.fn d ∈ lw.dl → DdOk lw.tb d)
    (law : ∀ ns : List Int, ns.length ≤ n → (∀ z ∈ ns, Builtin.Int.intBits z ≤ 1048576) → ∃ st', sem lw.tb lw.dl k i [] [.lst (ns.map .int)] [] = .ok (.bl true) st') :
    PySem.W.WalkO q loose XP (lw.hook m).says l.row.toRowW d [] (fun f vs => PySem.call f vs) := by
  refine Att.attach_callB hn hdf fun w s₀ s₁ mg mb fa o pm cd doc a vs ns G Y ho hd hcd hmg hobj hints hlen hbits hg => ?_
  obtain ⟨K, KX, nl, says⟩ := Y
  have e1 := He.glo_ok KX G.T.g (band (says.ck.fns _ (look_mem hgl))).1
  have e1 : mg d.name = some (.ref (He.ga K d.name)) := e1
  rw [hmg] at e1
  cases e1
  exact law_callG (T := ⟨K, fun _ => none, [], none⟩) rfl KX nl G.T.g G.T.b G.T.builtins G.T.nolimit hg hobj hints (Nat.le_trans hlen hn2) hr (fun base hK hns => by
    have z := all_ok (P := l.prog) (w := w) (T := ⟨K, fun _ => none, [], none⟩) (base := base) ⟨hK, hns, says, rfl⟩ st k i []
    rw [fnB_ok (band (band (says.ck.fns _ (look_mem hgl))).2).2] at z
    exact z) (law ns hlen hbits)
end DV

namespace DV
open PySem PySem.Spec PyProof.Rows L2
def isDef (x : Str) : Stmt → Bool
  | .FunctionDef n _ _ _ _ _ _ _ _ _ => n == x
  | _ => false
def isCls (x : Str) : Stmt → Bool
  | .ClassDef n _ _ _ _ _ _ _ _ _ _ => n == x
  | _ => false
def clsBody : Stmt → List Stmt
  | .ClassDef _ _ _ b _ _ _ _ _ _ _ => b
  | _ => []
def noStmt : Stmt := .Pass ⟨0, 0, 0, 0⟩
def dStmt (p : Program) (x : Str) : Stmt := (p.main.body.find? (isDef x)).getD noStmt
def mStmt (p : Program) (C m : Str) : Stmt := ((clsBody ((p.main.body.find? (isCls C)).getD noStmt)).find? (isDef m)).getD noStmt
def defName : Stmt → Str
  | .FunctionDef n _ _ _ _ _ _ _ _ _ => n
  | _ => Str.empty
def psOf (a : Arguments) : List Str := a.args.map (·.arg)
def pvOf (a : Arguments) : Option Str := a.vararg.map (·.arg)
def fastOf : Str × Const → Option Str
  | (_, .str x) => some x
  | _ => none
def namesN (s : Stmt) : List Str := (psOf (defArgs s) ++ (pvOf (defArgs s)).toList ++ ((defScope s).names.filterMap fun y => if y.2 == .local || y.2 == .cell then some y.1 else none) ++ (defScope s).more.filterMap fastOf).eraseDups
def shOf (a : Arguments) : List Str × Nat × List Nat := ([], a.args.length, List.range a.args.length)
def mkDd (at_ : Str × Option Str) (qual : Str) (s : Stmt) (ps : List Str) (pv : Option Str) (N : List Str) (sh : Shapes) (is : List IS) : Dd := ⟨at_, defName s, qual, defArgs s, defBody s, defScope s, ps, pv, N, sh, is, false⟩
def mkGet (at_ : Str × Option Str) (qual : Str) (s : Stmt) (ps : List Str) (pv : Option Str) (N : List Str) (sh : Shapes) (is : List IS) : Dd := ⟨at_, defName s, qual, defArgs s, defBody s, defScope s, ps, pv, N, sh, is, true⟩
end DV

namespace DV
open PySem PySem.Spec PyProof.Rows L2

/-! ### what comes out -/
/-- what is asked of an error -/
abbrev Ex : Type := Str → List (Str × D) → Store → Prop
abbrev noE : Ex := fun _ _ _ => False
def R.tx {α : Type} (r : R α) (E : Ex) (Q : α → Store → Prop) : Prop := match r with
  | .ok a st => Q a st
  | .ex c fs st => E c fs st
  | .stuck => False
abbrev R.to {α : Type} (r : R α) (Q : α → Store → Prop) : Prop := R.tx r noE Q
structure Po where
  nx : Env → Store → Prop
  rt : D → Store → Prop
  bk : Env → Store → Prop
  ct : Env → Store → Prop
  ex : Ex := noE
def RS.to (r : RS) (P : Po) : Prop := match r with
  | .nx ρ st => P.nx ρ st
  | .rt d st => P.rt d st
  | .bk ρ st => P.bk ρ st
  | .ct ρ st => P.ct ρ st
  | .ex c fs _ st => P.ex c fs st
  | .stuck => False
theorem R.to_mono {α : Type} {r : R α} {E : Ex} {Q Q' : α → Store → Prop} (h : r.tx E Q) (i : ∀ a st, Q a st → Q' a st) : r.tx E Q' := by
  cases r with
  | ok a st => exact i _ _ h
  | ex c fs st => exact h
  | stuck => exact h
theorem R.tx_mono {α : Type} {r : R α} {E E' : Ex} {Q Q' : α → Store → Prop} (h : r.tx E Q) (i : ∀ a st, Q a st → Q' a st) (j : ∀ c fs st, E c fs st → E' c fs st) : r.tx E' Q' := by
  cases r with
  | ok a st => exact i _ _ h
  | ex c fs st => exact j _ _ _ h
  | stuck => exact h
/-- what raises nothing -/
theorem R.of_to {α : Type} {r : R α} {E : Ex} {Q Q' : α → Store → Prop} (h : r.to Q) (i : ∀ a st, Q a st → Q' a st) : r.tx E Q' := R.tx_mono h i fun _ _ _ z => z.elim
theorem R.to_ok {α : Type} {r : R α} {a : α} {st : Store} {Q : α → Store → Prop} (e : r = .ok a st) (h : Q a st) : r.to Q := by rw [e]; exact h
theorem R.to_ex {α : Type} {r : R α} {Q : α → Store → Prop} (h : r.to Q) : ∃ a st, r = .ok a st ∧ Q a st := by
  cases r with
  | ok a st => exact ⟨a, st, rfl, h⟩
  | ex c fs st => exact h.elim
  | stuck => exact h.elim
theorem to_bind {α β : Type} (r : R α) (k : α → Store → R β) {E : Ex} (Q : β → Store → Prop) : (r.bind k).tx E Q = r.tx E fun a st => (k a st).tx E Q := by cases r <;> rfl
theorem to_toS {α : Type} (r : R α) (ρ : Env) (k : α → Store → RS) (P : Po) : (r.toS ρ k).to P = r.tx P.ex fun a st => (k a st).to P := by cases r <;> rfl
theorem to_then (r : RS) (k : Ss) (P : Po) : (r.then k).to P = r.to { P with nx := fun ρ st => (k ρ st).to P } := by cases r <;> rfl
theorem to_ret {α : Type} (a : α) (st : Store) {E : Ex} (Q : α → Store → Prop) : (R.ok a st).tx E Q = Q a st := Eq.trans (Eq.refl _) rfl
theorem RS.to_mono {r : RS} {P P' : Po} (h : r.to P) (i1 : ∀ ρ st, P.nx ρ st → P'.nx ρ st) (i2 : ∀ d st, P.rt d st → P'.rt d st) (i3 : ∀ ρ st, P.bk ρ st → P'.bk ρ st) (i4 : ∀ ρ st, P.ct ρ st → P'.ct ρ st) (i5 : ∀ c fs st, P.ex c fs st → P'.ex c fs st := by intro _ _ _ h; exact h) : r.to P' := by
  cases r with
  | nx ρ st => exact i1 _ _ h
  | rt d st => exact i2 _ _ h
  | bk ρ st => exact i3 _ _ h
  | ct ρ st => exact i4 _ _ h
  | ex c fs ρ st => exact i5 _ _ _ h
  | stuck => exact h
def oto {α : Type} (o : Option α) (Q : α → Prop) : Prop := match o with
  | some a => Q a
  | none => False
theorem oto_some {α : Type} (a : α) (Q : α → Prop) : oto (some a) Q = Q a := Eq.trans (Eq.refl _) rfl
def slTo (o : Option Sl) (Q : D → Prop) : Prop := match o with
  | some (.v d) => Q d
  | _ => False
theorem slTo_v (d : D) (Q : D → Prop) : slTo (some (.v d)) Q = Q d := Eq.trans (Eq.refl _) rfl
def tst (d : D) (a b : Prop) : Prop := match d with
  | .bl t => (t = true → a) ∧ (t = false → b)
  | _ => False
theorem tst_bl (t : Bool) (a b : Prop) : tst (.bl t) a b = ((t = true → a) ∧ (t = false → b)) := Eq.trans (Eq.refl _) rfl
def tru (d : D) (a b : Prop) : Prop := match truP d with
  | some t => (t = true → a) ∧ (t = false → b)
  | none => False
theorem to_okO (o : Option D) (st : Store) {E : Ex} (Q : D → Store → Prop) : (okO o st).tx E Q = oto o fun d => Q d st := by cases o <;> rfl
theorem to_truR (d : D) (st : Store) {E : Ex} (Q : D → Store → Prop) : (truR d st).tx E Q = oto (truP d) fun b => Q (.bl b) st := by
  unfold truR oto
  cases truP d <;> rfl

/-! ### expressions -/
section
variable (tb : Tb) (G : Gam) (ρ : Env) (st : Store) {E : Ex} (Q : D → Store → Prop)
theorem w_var (i : Nat) : (den tb G (.var i) ρ st).tx E Q = slTo ρ[i]? fun d => Q d st := by
  rw [den]
  unfold shVar slTo
  cases ρ[i]? with
  | none => rfl
  | some s => cases s <;> rfl
theorem w_int (i : Int) : (den tb G (.int i) ρ st).tx E Q = Q (.int i) st := by rw [den]; rfl
theorem w_bl (i : Bool) : (den tb G (.bl i) ρ st).tx E Q = Q (.bl i) st := by rw [den]; rfl
theorem w_non : (den tb G .non ρ st).tx E Q = Q .non st := by rw [den]; rfl
theorem w_str (i : Str) : (den tb G (.str i) ρ st).tx E Q = Q (.str i) st := by rw [den]; rfl
theorem w_gl (i : Str) : (den tb G (.gl i) ρ st).tx E Q = Q ((tb.gl.lookup i).getD .non) st := by rw [den]; rfl
theorem w_ty (i : String) : (den tb G (.ty i) ρ st).tx E Q = Q (.ty i) st := by rw [den]; rfl
theorem w_bin (op : Operator) (a b : IE) : (den tb G (.bin op a b) ρ st).tx E Q = (den tb G a ρ st).tx E fun d st => (den tb G b ρ st).tx E fun e st => (binP op d e st).tx E Q := by
  rw [den]
  unfold shBin
  simp only [to_bind]
theorem w_un (op : UnaryOp) (a : IE) : (den tb G (.un op a) ρ st).tx E Q = (den tb G a ρ st).tx E fun d st => (unP op d st).tx E Q := by
  rw [den]
  unfold shUn
  simp only [to_bind]
theorem w_cmp (op : CmpOp) (a b : IE) : (den tb G (.cmp op a b) ρ st).tx E Q = (den tb G a ρ st).tx E fun d st => (den tb G b ρ st).tx E fun e st => (cmpP op d e st).tx E Q := by
  rw [den]
  unfold shCmp
  simp only [to_bind]
theorem w_chain (op op' : CmpOp) (a b c : IE) : (den tb G (.chain op op' a b c) ρ st).tx E Q = (den tb G a ρ st).tx E fun d st => (den tb G b ρ st).tx E fun e st => (cmpP op d e st).tx E fun t st => tst t ((den tb G c ρ st).tx E fun d' st => (cmpP op' e d' st).tx E Q) (Q (.bl false) st) := by
  rw [den]
  unfold shChain
  simp only [to_bind]
  congr 1; funext d st; congr 1; funext e st; congr 1; funext t st
  cases t <;> try rfl
  rename_i b
  cases b
  · simp [tst, R.tx]
  · show ((den tb G c ρ st).bind fun d' st => cmpP op' e d' st).tx E Q = _
    rw [to_bind]
    simp [tst]
theorem w_and (a b : IE) : (den tb G (.and a b) ρ st).tx E Q = (den tb G a ρ st).tx E fun d st => tru d ((den tb G b ρ st).tx E Q) (Q d st) := by
  rw [den]
  unfold shAnd
  simp only [to_bind]
  congr 1; funext d st
  unfold tru
  cases q : truP d with
  | none => rfl
  | some t => cases t <;> simp [R.tx]
theorem w_or (a b : IE) : (den tb G (.or a b) ρ st).tx E Q = (den tb G a ρ st).tx E fun d st => tru d (Q d st) ((den tb G b ρ st).tx E Q) := by
  rw [den]
  unfold shOr
  simp only [to_bind]
  congr 1; funext d st
  unfold tru
  cases q : truP d with
  | none => rfl
  | some t => cases t <;> simp [R.tx]
theorem w_not (a : IE) : (den tb G (.not a) ρ st).tx E Q = (den tb G a ρ st).tx E fun d st => oto (truP d) fun k => Q (.bl (!k)) st := by
  rw [den]
  unfold shNot
  simp only [to_bind]
  congr 1; funext d st
  cases q : truP d <;> rfl
theorem w_ife (t a b : IE) : (den tb G (.ife t a b) ρ st).tx E Q = (den tb G t ρ st).tx E fun d st => tst d ((den tb G a ρ st).tx E Q) ((den tb G b ρ st).tx E Q) := by
  rw [den]
  unfold shIf
  simp only [to_bind]
  congr 1; funext d st
  cases d <;> try rfl
  rename_i t
  cases t <;> simp [tst]
def evTo (E : Ex) (es : List IE) (ρ : Env) (st : Store) (Q : List D → Store → Prop) : Prop := (evs (dens tb G es) ρ st).tx E Q
theorem ev_nil (Q : List D → Store → Prop) : evTo tb G E [] ρ st Q = Q [] st := by
  unfold evTo
  rw [dens]; rfl
theorem ev_cons (e : IE) (es : List IE) (Q : List D → Store → Prop) : evTo tb G E (e :: es) ρ st Q = (den tb G e ρ st).tx E fun d st => evTo tb G E es ρ st fun ds st => Q (d :: ds) st := by
  unfold evTo
  rw [dens, evs]
  simp only [to_bind, to_ret]
theorem w_tup (es : List IE) : (den tb G (.tup es) ρ st).tx E Q = evTo tb G E es ρ st fun ds st => ds.length ≤ sizeLine ∧ Q (.tup ds) st := by
  rw [den]
  unfold shTup evTo
  simp only [to_bind]
  congr 1; funext ds st
  by_cases z : ds.length ≤ sizeLine
  · simp [z, R.tx]
  · simp [z, R.tx]
theorem w_lst (es : List IE) : (den tb G (.lst es) ρ st).tx E Q = evTo tb G E es ρ st fun ds st => ds.length ≤ sizeLine ∧ Q (.lst ds) st := by
  rw [den]
  unfold shLst evTo
  simp only [to_bind]
  congr 1; funext ds st
  by_cases z : ds.length ≤ sizeLine
  · simp [z, R.tx]
  · simp [z, R.tx]
theorem w_lstM (es : List IE) : (den tb G (.lstM es) ρ st).tx E Q = evTo tb G E es ρ st fun ds st => ds.length ≤ sizeLine ∧ Q (.ref st.length) (st ++ [.lst ds]) := by
  rw [den]
  unfold shLstM evTo
  simp only [to_bind]
  congr 1; funext ds st
  by_cases z : ds.length ≤ sizeLine
  · simp [z, R.tx]
  · simp [z, R.tx]
theorem w_ix (a b : IE) : (den tb G (.ix a b) ρ st).tx E Q = (den tb G a ρ st).tx E fun d st => (den tb G b ρ st).tx E fun e st => (ixP tb.kd d e st).tx E Q := by
  rw [den]
  unfold shIx
  simp only [to_bind]
def partTo (E : Ex) (e : IE) (ρ : Env) (st : Store) (Q : Option Int → Store → Prop) : Prop := (partR (denO tb G e) ρ st).tx E Q
theorem part_nop (Q : Option Int → Store → Prop) : partTo tb G E .nop ρ st Q = Q none st := by
  unfold partTo
  rw [denO]; rfl
def asInt (d : D) (Q : Int → Prop) : Prop := match d with
  | .int i => Q i
  | _ => False
theorem asInt_int (i : Int) (Q : Int → Prop) : asInt (.int i) Q = Q i := Eq.trans (Eq.refl _) rfl
theorem part_of (e : IE) (h : e ≠ .nop) (Q : Option Int → Store → Prop) : partTo tb G E e ρ st Q = (den tb G e ρ st).tx E fun d st => asInt d fun i => Q (some i) st := by
  have e1 : denO tb G e = some (den tb G e) := by
    cases e <;> first | exact absurd rfl h | (rw [denO]; simp)
  unfold partTo
  rw [e1]
  unfold partR
  simp only [to_bind]
  congr 1; funext d st
  cases d <;> rfl
theorem w_sl (a lo hi : IE) : (den tb G (.sl a lo hi) ρ st).tx E Q = (den tb G a ρ st).tx E fun d st => partTo tb G E lo ρ st fun l st => partTo tb G E hi ρ st fun u st => (slP d l u st).tx E Q := by
  rw [den]
  unfold shSl partTo
  simp only [to_bind]
theorem w_bi (b : BI) (es : List IE) : (den tb G (.bi b es) ρ st).tx E Q = evTo tb G E es ρ st fun ds st => (b.fn tb.kit ds st).tx E Q := by
  rw [den]
  unfold shCB evTo
  simp only [to_bind]
theorem w_call (n : Nat) (names : List Str) (es ks : List IE) : (den tb G (.call n names es ks) ρ st).tx E Q = evTo tb G E es ρ st fun ds st => evTo tb G E ks ρ st fun js st => js.length = names.length ∧ (G n names (ds ++ js) st).tx E Q := by
  rw [den]
  unfold shCall evs2 evTo
  simp only [to_bind]
  congr 1; funext ds st; congr 1; funext js st
  by_cases z : js.length = names.length
  · simp [z]
  · simp [z, R.tx]
theorem w_callS (n : Nat) (e : IE) : (den tb G (.callS n e) ρ st).tx E Q = (den tb G e ρ st).tx E fun d st => oto (seqD d st) fun xs => (G n [] xs st).tx E Q := by
  rw [den]
  unfold shCallS
  simp only [to_bind]
  congr 1; funext d st
  cases seqD d st <;> rfl
theorem w_meth (m : Str) (o : IE) (names : List Str) (es ks : List IE) : (den tb G (.meth m o names es ks) ρ st).tx E Q = (den tb G o ρ st).tx E fun d st => oto (methN ((tb.meths.lookup m).getD []) m d st) fun n =>
    evTo tb G E es ρ st fun ds st => evTo tb G E ks ρ st fun js st => js.length = names.length ∧ (G n names (d :: ds ++ js) st).tx E Q := by
  rw [den]
  unfold shMeth evs2 evTo
  simp only [to_bind]
  congr 1; funext d st
  cases methN ((tb.meths.lookup m).getD []) m d st with
  | none => rfl
  | some n =>
    simp only [oto, to_bind]
    congr 1; funext ds st; congr 1; funext js st
    by_cases z : js.length = names.length
    · simp [z]
    · simp [z, R.tx]
theorem w_op (o : Operator) (a b : IE) : (den tb G (.op o a b) ρ st).tx E Q = (den tb G a ρ st).tx E fun d st => (den tb G b ρ st).tx E fun e st => oto (opN ((tb.ops.lookup o).getD []) d e st) fun n => (G n [] [d, e] st).tx E Q := by
  rw [den]
  unfold shOp
  simp only [to_bind]
  congr 1; funext d st; congr 1; funext e st
  cases opN ((tb.ops.lookup o).getD []) d e st <;> rfl
theorem w_attr (f : Str) (o : IE) : (den tb G (.attr f o) ρ st).tx E Q = (den tb G o ρ st).tx E fun d st => oto (d.insOf st) fun p => tb.cls.contains p.1 = true ∧ oto (p.2.lookup f) fun d => Q d st := by
  rw [den]
  unfold shAttr
  simp only [to_bind]
  congr 1; funext d st
  cases q : d.insOf st with
  | none => rfl
  | some p =>
    obtain ⟨c, fs⟩ := p
    show (if tb.cls.contains c = true then okO (fs.lookup f) st else R.stuck).tx E Q = (tb.cls.contains c = true ∧ oto (fs.lookup f) fun d => Q d st)
    by_cases z : tb.cls.contains c = true
    · rw [if_pos z, to_okO]
      exact propext ⟨fun h => ⟨z, h⟩, fun h => h.2⟩
    · rw [if_neg z]
      exact propext ⟨fun h => h.elim, fun h => z h.1⟩
theorem w_app (o a : IE) : (den tb G (.app o a) ρ st).tx E Q = (shApp (den tb G o) (den tb G a) ρ st).tx E Q := by rw [den]
theorem w_idx (o a : IE) : (den tb G (.idx o a) ρ st).tx E Q = (shIdx (den tb G o) (den tb G a) ρ st).tx E Q := by rw [den]
theorem w_dzip (a b : IE) : (den tb G (.dzip a b) ρ st).tx E Q = (den tb G a ρ st).tx E fun d st => (den tb G b ρ st).tx E fun e st => (dictZipP d e st).tx E Q := by
  rw [den]
  unfold shDictZip
  simp only [to_bind]
theorem w_lc (it : IE) (t : Tgd) (ifs el : IE) (vs : List Nat) : (den tb G (.lc false it t ifs el vs) ρ st).tx E Q = (denI tb G it ρ st).tx E fun ds st => (lcP t (denT tb G ifs) (den tb G el) (wipeD ρ vs) ds [] st).tx E fun ys st => Q (.lst ys) st := by
  rw [den]
  show (shLc _ _ _ _ _ ρ st).tx E Q = _
  unfold shLc lcR
  simp only [to_bind, to_ret]
theorem w_lcM (it : IE) (t : Tgd) (ifs el : IE) (vs : List Nat) : (den tb G (.lc true it t ifs el vs) ρ st).tx E Q = (denI tb G it ρ st).tx E fun ds st => (lcP t (denT tb G ifs) (den tb G el) (wipeD ρ vs) ds [] st).tx E fun ys st => Q (.ref st.length) (st ++ [.lst ys]) := by
  rw [den]
  show (shLcM _ _ _ _ _ ρ st).tx E Q = _
  unfold shLcM lcR
  simp only [to_bind, to_ret]
theorem w_tru (a : IE) : (den tb G (.tru a) ρ st).tx E Q = (den tb G a ρ st).tx E fun d st => oto (truP d) fun b => Q (.bl b) st := by
  rw [den]
  unfold shTru
  simp only [to_bind, to_truR]
def asBl (d : D) (Q : Bool → Prop) : Prop := match d with
  | .bl i => Q i
  | _ => False
theorem asBl_bl (i : Bool) (Q : Bool → Prop) : asBl (.bl i) Q = Q i := Eq.trans (Eq.refl _) rfl
theorem w_nott (a : IE) : (den tb G (.nott a) ρ st).tx E Q = (den tb G a ρ st).tx E fun d st => asBl d fun b => Q (.bl (!b)) st := by
  rw [den]
  unfold shNotB
  simp only [to_bind]
  congr 1; funext d st
  cases d <;> rfl
theorem w_andt (a b : IE) : (den tb G (.andt a b) ρ st).tx E Q = (den tb G a ρ st).tx E fun d st => tst d ((den tb G b ρ st).tx E Q) (Q (.bl false) st) := by
  rw [den]
  unfold shAndB
  simp only [to_bind]
  congr 1; funext d st
  cases d <;> try rfl
  rename_i t
  cases t <;> simp [tst, R.tx]
theorem w_ort (a b : IE) : (den tb G (.ort a b) ρ st).tx E Q = (den tb G a ρ st).tx E fun d st => tst d (Q (.bl true) st) ((den tb G b ρ st).tx E Q) := by
  rw [den]
  unfold shOrB
  simp only [to_bind]
  congr 1; funext d st
  cases d <;> try rfl
  rename_i t
  cases t <;> simp [tst, R.tx]
variable (QL : List D → Store → Prop)
theorem i_itv (a : IE) : (denI tb G (.itv a) ρ st).tx E QL = (den tb G a ρ st).tx E fun d st => (itD d st).tx E QL := by
  rw [denI]
  unfold shItr
  simp only [to_bind]
theorem i_rng1 (es : List IE) : (denI tb G (.rng1 es) ρ st).tx E QL = evTo tb G E es ρ st fun ds st => (rng1D ds st).tx E QL := by
  rw [denI]
  unfold shIts evTo
  simp only [to_bind]
theorem i_rng2 (es : List IE) : (denI tb G (.rng2 es) ρ st).tx E QL = evTo tb G E es ρ st fun ds st => (rng2D ds st).tx E QL := by
  rw [denI]
  unfold shIts evTo
  simp only [to_bind]
theorem i_enm (es : List IE) : (denI tb G (.enm es) ρ st).tx E QL = evTo tb G E es ρ st fun ds st => (enumD ds st).tx E QL := by
  rw [denI]
  unfold shIts evTo
  simp only [to_bind]

/-! ### statements -/
variable (P : Po)
theorem b_nil : (denB tb G [] ρ st).to P = P.nx ρ st := by rw [denB]; rfl
theorem b_cons (s : IS) (ss : List IS) : (denB tb G (s :: ss) ρ st).to P = (denS tb G s ρ st).to { P with nx := fun ρ st => (denB tb G ss ρ st).to P } := by
  rw [denB]
  simp only [to_then]
theorem s_exp (e : IE) : (denS tb G (.exp e) ρ st).to P = (den tb G e ρ st).tx P.ex fun _ st => P.nx ρ st := by
  rw [denS]
  simp only [to_toS]
  rfl
theorem s_doc : (denS tb G .doc ρ st).to P = P.nx ρ st := by rw [denS]; rfl
theorem s_pass : (denS tb G .pass ρ st).to P = P.nx ρ st := by rw [denS]; rfl
theorem s_brk : (denS tb G .brk ρ st).to P = P.bk ρ st := by rw [denS]; rfl
theorem s_cont : (denS tb G .cont ρ st).to P = P.ct ρ st := by rw [denS]; rfl
theorem s_never : (denS tb G .never ρ st).to P = False := by rw [denS]; rfl
theorem s_set (i : Nat) (e : IE) : (denS tb G (.set i e) ρ st).to P = (den tb G e ρ st).tx P.ex fun d st => P.nx (ρ.set i (.v d)) st := by
  rw [denS]
  simp only [to_toS]
  rfl
theorem to_gOnly (r : RS) (P : Po) : (gOnly r).to P = r.to { nx := P.nx, rt := fun _ _ => False, bk := fun _ _ => False, ct := fun _ _ => False, ex := P.ex } := by cases r <;> rfl
def gTo (E : Ex) (g : IG) (d : D) (ρ : Env) (st : Store) (N : Env → Store → Prop) : Prop := (gOnly (denG tb G g d ρ st)).to { nx := N, rt := fun _ _ => False, bk := fun _ _ => False, ct := fun _ _ => False, ex := E }
theorem s_asg (g : IG) (e : IE) : (denS tb G (.asg g e) ρ st).to P = (den tb G e ρ st).tx P.ex fun d st => gTo tb G P.ex g d ρ st P.nx := by
  rw [denS]
  simp only [to_toS]
  congr 1; funext d st
  unfold gTo
  cases denG tb G g d ρ st <;> rfl
theorem g_var (i : Nat) (d : D) (N : Env → Store → Prop) : gTo tb G E (.var i) d ρ st N = N (ρ.set i (.v d)) st := by
  unfold gTo
  rw [denG]; rfl
theorem g_sub (a b : IE) (x : D) (N : Env → Store → Prop) : gTo tb G E (.sub a b) x ρ st N = (den tb G a ρ st).tx E fun d st => (den tb G b ρ st).tx E fun e st => (putP d e x st).tx E fun _ st => N ρ st := by
  unfold gTo
  rw [denG, to_gOnly]
  unfold gSubP
  simp only [to_toS]
  rfl
def gsTo (E : Ex) (gs : List IG) (ds : List D) (ρ : Env) (st : Store) (N : Env → Store → Prop) : Prop := (gsN (denGs tb G gs) ds ρ st).to { nx := N, rt := fun _ _ => False, bk := fun _ _ => False, ct := fun _ _ => False, ex := E }
theorem gs_nil (N : Env → Store → Prop) : gsTo tb G E [] [] ρ st N = N ρ st := by
  unfold gsTo
  rw [denGs]; rfl
theorem gs_cons (g : IG) (gs : List IG) (d : D) (ds : List D) (N : Env → Store → Prop) : gsTo tb G E (g :: gs) (d :: ds) ρ st N = gTo tb G E g d ρ st fun ρ st => gsTo tb G E gs ds ρ st N := by
  unfold gsTo gTo
  rw [denGs, gsN]
  simp only [to_then]
theorem denGs_len : ∀ gs : List IG, (denGs tb G gs).length = gs.length
  | [] => by rw [denGs]; rfl
  | g :: gs => by rw [denGs]; simp [denGs_len gs]
theorem g_tup (gs : List IG) (ds : List D) (N : Env → Store → Prop) : gTo tb G E (.tup gs) (.tup ds) ρ st N = (ds.length = gs.length ∧ gsTo tb G E gs ds ρ st N) := by
  unfold gTo gsTo
  rw [denG, to_gOnly]
  show (if ds.length = (denGs tb G gs).length then gsN (denGs tb G gs) ds ρ st else RS.stuck).to _ = _
  rw [denGs_len]
  by_cases z : ds.length = gs.length
  · simp [z]
  · simp [z, RS.to]
theorem s_par (i j : Nat) (a b : IE) : (denS tb G (.par i j a b) ρ st).to P = (den tb G a ρ st).tx P.ex fun d st => (den tb G b ρ st).tx P.ex fun e st => P.nx ((ρ.set i (.v d)).set j (.v e)) st := by
  rw [denS]
  unfold parP
  simp only [to_toS]
  rfl
theorem s_par3 (i j l : Nat) (a b d : IE) : (denS tb G (.par3 i j l a b d) ρ st).to P = (den tb G a ρ st).tx P.ex fun v st => (den tb G b ρ st).tx P.ex fun w st => (den tb G d ρ st).tx P.ex fun u st => P.nx (((ρ.set i (.v v)).set j (.v w)).set l (.v u)) st := by
  rw [denS]
  unfold par3P
  simp only [to_toS]
  rfl
theorem s_ret (e : IE) : (denS tb G (.ret e) ρ st).to P = (den tb G e ρ st).tx P.ex P.rt := by
  rw [denS]
  simp only [to_toS]
  rfl
theorem s_retF (e : IE) : (denS tb G (.retF e) ρ st).to P = (den tb G e ρ st).tx P.ex fun d st => (frzR d st).tx P.ex P.rt := by
  rw [denS]
  unfold shFrz
  simp only [to_toS, to_bind]
  rfl
theorem s_retN : (denS tb G .retN ρ st).to P = P.rt .non st := by rw [denS]; rfl
theorem s_ite (t : IE) (a b : List IS) : (denS tb G (.ite t a b) ρ st).to P = (den tb G t ρ st).tx P.ex fun d st => tst d ((denB tb G a ρ st).to P) ((denB tb G b ρ st).to P) := by
  rw [denS]
  unfold stIf
  simp only [to_toS]
  congr 1; funext d st
  cases d <;> try rfl
  rename_i t
  cases t <;> simp [tst]
def forTo (g : IG) (body : List IS) (ds : List D) (ρ : Env) (st : Store) (P : Po) : Prop := (forP (denG tb G g) (denB tb G body) ds ρ st).to P
theorem s_for (it : IE) (g : IG) (body : List IS) : (denS tb G (.forr it g body) ρ st).to P = (denI tb G it ρ st).tx P.ex fun ds st => forTo tb G g body ds ρ st P := by
  rw [denS]
  unfold stFor forTo
  simp only [to_toS]
theorem for_nil (g : IG) (body : List IS) : forTo tb G g body [] ρ st P = P.nx ρ st := Eq.trans (Eq.refl _) rfl
theorem to_loopB (r : RS) (k : Ss) (P : Po) : (loopB r k).to P = r.to { nx := fun ρ st => (k ρ st).to P, rt := P.rt, bk := P.nx, ct := fun ρ st => (k ρ st).to P, ex := P.ex } := by cases r <;> rfl
theorem for_cons (g : IG) (body : List IS) (d : D) (ds : List D) : forTo tb G g body (d :: ds) ρ st P = gTo tb G P.ex g d ρ st fun ρ st => (denB tb G body ρ st).to { nx := fun ρ st => forTo tb G g body ds ρ st P, rt := P.rt, bk := P.nx, ct := fun ρ st => forTo tb G g body ds ρ st P, ex := P.ex } := by
  unfold forTo gTo
  rw [forP]
  simp only [to_then, to_loopB, to_gOnly]
theorem s_attr (f : Str) (v o : IE) : (denS tb G (.attr f v o) ρ st).to P = (den tb G v ρ st).tx P.ex fun x st => (den tb G o ρ st).tx P.ex fun d st => (putAP tb.cls f d x st).tx P.ex fun _ st => P.nx ρ st := by
  rw [denS]
  unfold stAttr
  simp only [to_toS]
  rfl
end
/-- a for loop, by what holds ahead of each turn -/
theorem for_inv {tb : Tb} {G : Gam} {g : IG} {body : List IS} {P : Po} (I : List D → Env → Store → Prop)
    (step : ∀ d ds ρ st, I (d :: ds) ρ st → gTo tb G P.ex g d ρ st fun ρ st => (denB tb G body ρ st).to { nx := I ds, rt := P.rt, bk := P.nx, ct := I ds, ex := P.ex }) (fin : ∀ ρ st, I [] ρ st → P.nx ρ st) :
    ∀ ds ρ st, I ds ρ st → forTo tb G g body ds ρ st P
  | [], ρ, st, h => fin ρ st h
  | d :: ds, ρ, st, h => by
    rw [for_cons]
    have s := step d ds ρ st h
    unfold gTo at s ⊢
    refine RS.to_mono s (fun ρ st q => RS.to_mono q (fun ρ st z => for_inv I step fin ds ρ st z) (fun _ _ z => z) (fun _ _ z => z) (fun ρ st z => for_inv I step fin ds ρ st z)) (fun _ _ z => z) (fun _ _ z => z) (fun _ _ z => z)
/-- a comprehension, by what holds ahead of each turn -/
theorem lc_inv {t : Tgd} {ft fe : Sh} {ρ : Env} {E : Ex} {Q : List D → Store → Prop} (I : List D → List D → Store → Prop)
    (step : ∀ d ds acc st, I (d :: ds) acc st → oto (t.set d ρ) fun ρ1 => (ft ρ1 st).tx noE fun b st => tst b ((fe ρ1 st).tx noE fun y st => acc.length < sizeLine ∧ I ds (acc ++ [y]) st) (I ds acc st)) (fin : ∀ acc st, I [] acc st → Q acc st) :
    ∀ ds acc st, I ds acc st → (lcP t ft fe ρ ds acc st).tx E Q
  | [], acc, st, h => fin acc st h
  | d :: ds, acc, st, h => by
    rw [lcP]
    have s := step d ds acc st h
    cases q : t.set d ρ with
    | none => rw [q] at s; exact s
    | some ρ1 =>
      rw [q] at s
      have s : (ft ρ1 st).tx noE fun b st => tst b ((fe ρ1 st).tx noE fun y st => acc.length < sizeLine ∧ I ds (acc ++ [y]) st) (I ds acc st) := s
      show ((ft ρ1 st).calm.bind _).tx E Q
      cases q1 : ft ρ1 st with
      | stuck => rw [q1] at s; exact s.elim
      | ex c fs st1 => rw [q1] at s; exact s.elim
      | ok b st1 =>
        rw [q1] at s
        cases b <;> try exact s.elim
        rename_i b
        cases b with
        | false => exact lc_inv I step fin ds acc st1 (s.2 rfl)
        | true =>
          have s := s.1 rfl
          show ((fe ρ1 st1).calm.bind _).tx E Q
          cases q2 : fe ρ1 st1 with
          | stuck => rw [q2] at s; exact s.elim
          | ex c fs st2 => rw [q2] at s; exact s.elim
          | ok y st2 =>
            rw [q2] at s
            obtain ⟨s1, s2⟩ := s
            show (if acc.length < sizeLine then lcP t ft fe ρ ds (acc ++ [y]) st2 else R.stuck).tx E Q
            rw [if_pos s1]
            exact lc_inv I step fin ds _ st2 s2
theorem denT_nop (tb : Tb) (G : Gam) (ρ : Env) (st : Store) {E : Ex} (Q : D → Store → Prop) : (denT tb G .nop ρ st).tx E Q = Q (.bl true) st := by
  rw [denT]; rfl
theorem denT_of (tb : Tb) (G : Gam) (e : IE) (h : e ≠ .nop) : denT tb G e = den tb G e := by
  cases e <;> first | exact absurd rfl h | (rw [denT]; simp)
end DV

namespace DV
open PySem PySem.Spec PyProof.Rows L2

/-! ### the primitives -/
theorem to_if {α : Type} (c : Prop) [Decidable c] (r : R α) {E : Ex} (Q : α → Store → Prop) : (if c then r else R.stuck).tx E Q = (c ∧ r.tx E Q) := by
  by_cases z : c
  · simp [z]
  · simp [z, R.tx]
section
variable (st : Store) {E : Ex} (Q : D → Store → Prop) (i j : Int) (a b : List D) (x y : Str) (s t : Bool)
theorem p_add : (binP .Add (.int i) (.int j) st).tx E Q = Q (.int (i + j)) st := Eq.trans (Eq.refl _) rfl
theorem p_addS : (binP .Add (.str x) (.str y) st).tx E Q = (x.length + y.length ≤ sizeLine ∧ Q (.str (x ++ y)) st) := to_if _ _ _
theorem p_addT : (binP .Add (.tup a) (.tup b) st).tx E Q = (a.length + b.length ≤ sizeLine ∧ Q (.tup (a ++ b)) st) := to_if _ _ _
theorem p_addL : (binP .Add (.lst a) (.lst b) st).tx E Q = (a.length + b.length ≤ sizeLine ∧ Q (.lst (a ++ b)) st) := to_if _ _ _
theorem p_addB : (binP .Add (.int i) (.bl s) st).tx E Q = Q (.int (i + b2i s)) st := Eq.trans (Eq.refl _) rfl
theorem p_sub : (binP .Sub (.int i) (.int j) st).tx E Q = Q (.int (i - j)) st := Eq.trans (Eq.refl _) rfl
theorem p_mul : (binP .Mult (.int i) (.int j) st).tx E Q = (i.natAbs.log2 + j.natAbs.log2 < 1000000 ∧ Q (.int (i * j)) st) := to_if _ _ _
theorem p_mulL : (binP .Mult (.lst a) (.int j) st).tx E Q = ((-(2 ^ 63) ≤ j ∧ j < 2 ^ 63 ∧ a.length * j.toNat ≤ sizeLine) ∧ Q (.lst (List.replicate j.toNat a).flatten) st) := to_if _ _ _
theorem p_fdiv : (binP .FloorDiv (.int i) (.int j) st).tx E Q = ((0 < j ∧ j.natAbs.log2 < 9000) ∧ Q (.int (i / j)) st) := to_if _ _ _
theorem p_mod : (binP .Mod (.int i) (.int j) st).tx E Q = (0 < j ∧ Q (.int (i % j)) st) := to_if _ _ _
theorem p_pow : (binP .Pow (.int i) (.int j) st).tx E Q = ((0 ≤ j ∧ j ≤ 1000000 ∧ i.natAbs < 2 ^ 64) ∧ Q (.int (i ^ j.toNat)) st) := to_if _ _ _
theorem p_neg : (unP .USub (.int i) st).tx E Q = Q (.int (-i)) st := Eq.trans (Eq.refl _) rfl
theorem p_eqI : (cmpP .Eq (.int i) (.int j) st).tx E Q = Q (.bl (decide (i = j))) st := Eq.trans (Eq.refl _) rfl
theorem p_neI : (cmpP .NotEq (.int i) (.int j) st).tx E Q = Q (.bl (!decide (i = j))) st := Eq.trans (Eq.refl _) rfl
theorem p_eqS : (cmpP .Eq (.str x) (.str y) st).tx E Q = Q (.bl (decide (x = y))) st := Eq.trans (Eq.refl _) rfl
theorem p_neS : (cmpP .NotEq (.str x) (.str y) st).tx E Q = Q (.bl (!decide (x = y))) st := Eq.trans (Eq.refl _) rfl
theorem p_eqB : (cmpP .Eq (.bl s) (.bl t) st).tx E Q = Q (.bl (decide (s = t))) st := Eq.trans (Eq.refl _) rfl
theorem p_lt : (cmpP .Lt (.int i) (.int j) st).tx E Q = Q (.bl (decide (i < j))) st := Eq.trans (Eq.refl _) rfl
theorem p_le : (cmpP .LtE (.int i) (.int j) st).tx E Q = Q (.bl (decide (i ≤ j))) st := Eq.trans (Eq.refl _) rfl
theorem p_gt : (cmpP .Gt (.int i) (.int j) st).tx E Q = Q (.bl (decide (j < i))) st := Eq.trans (Eq.refl _) rfl
theorem p_ge : (cmpP .GtE (.int i) (.int j) st).tx E Q = Q (.bl (decide (j ≤ i))) st := Eq.trans (Eq.refl _) rfl
theorem p_isN (d : D) : (cmpP .Is d .non st).tx E Q = Q (.bl (isNonD d)) st := Eq.trans (Eq.refl _) rfl
theorem p_isNN (d : D) : (cmpP .IsNot d .non st).tx E Q = Q (.bl (!isNonD d)) st := Eq.trans (Eq.refl _) rfl
theorem p_isB : (cmpP .Is (.bl s) (.bl t) st).tx E Q = Q (.bl (decide (s = t))) st := Eq.trans (Eq.refl _) rfl
theorem p_isNB : (cmpP .IsNot (.bl s) (.bl t) st).tx E Q = Q (.bl (!decide (s = t))) st := Eq.trans (Eq.refl _) rfl
theorem p_inT (d : D) : (cmpP .In d (.tup a) st).tx E Q = ((flatD d && a.all flatD) = true ∧ Q (.bl (inF d a)) st) := to_if _ _ _
theorem p_ninT (d : D) : (cmpP .NotIn d (.tup a) st).tx E Q = ((flatD d && a.all flatD) = true ∧ Q (.bl (!inF d a)) st) := to_if _ _ _
theorem p_ninK (d : D) (kvs : List (Key × D)) : (cmpP .NotIn d (.dK kvs) st).tx E Q = oto (keyD d) fun k => Q (.bl (!(valD kvs k).isSome)) st := by
  show (match keyD d with
    | some k => R.ok (D.bl (!(valD kvs k).isSome)) st
    | none => .stuck).tx E Q = _
  cases keyD d <;> rfl
theorem p_ixL : (ixP kd (.lst a) (.int i) st).tx E Q = oto (atI a i) fun d => Q d st := to_okO _ _ _
theorem p_ixT : (ixP kd (.tup a) (.int i) st).tx E Q = oto (atI a i) fun d => Q d st := to_okO _ _ _
theorem p_ixK (kvs : List (Key × D)) (d : D) : (ixP kd (.dK kvs) d st).tx E Q = oto (keyD d) fun k => oto (valD kvs k) fun d => Q d st := by
  show (match keyD d with
    | some k => okO (valD kvs k) st
    | none => .stuck).tx E Q = _
  cases keyD d with
  | none => rfl
  | some k => exact to_okO _ _ _
theorem p_ixG (d : D) : (ixP kd (.glo x) d st).tx E Q = oto (kd x d) fun d => Q d st := to_okO _ _ _
def asLst (o : Option MO) (Q : List D → Prop) : Prop := match o with
  | some (.lst xs) => Q xs
  | _ => False
theorem asLst_l (a : List D) (Q : List D → Prop) : asLst (some (.lst a)) Q = Q a := Eq.trans (Eq.refl _) rfl
theorem p_ixR (l : Nat) : (ixP kd (.ref l) (.int i) st).tx E Q = asLst st[l]? fun xs => oto (atI xs i) fun d => Q d st := by
  show (match st[l]? with
    | some (.lst xs) => okO (atI xs i) st
    | _ => .stuck).tx E Q = _
  cases st[l]? with
  | none => rfl
  | some o => cases o <;> first | rfl | exact to_okO _ _ _
theorem p_put (l : Nat) (x : D) : (putP (.ref l) (.int i) x st).tx E Q = asLst st[l]? fun xs => oto (ixN xs.length i) fun j => Q .non (st.set l (.lst (xs.set j x))) := by
  unfold putP
  dsimp only
  cases st[l]? with
  | none => rfl
  | some o =>
    cases o with
    | lst xs =>
      show R.tx (match ixN xs.length i with
        | some j => R.ok D.non (st.set l (.lst (xs.set j x)))
        | none => R.stuck) E Q = oto (ixN xs.length i) _
      cases ixN xs.length i <;> rfl
    | _ => rfl
theorem p_slL (lo hi : Option Int) : (slP (.lst a) lo hi st).tx E Q = Q (.lst (cutD a lo hi)) st := Eq.trans (Eq.refl _) rfl
theorem p_slT (lo hi : Option Int) : (slP (.tup a) lo hi st).tx E Q = Q (.tup (cutD a lo hi)) st := Eq.trans (Eq.refl _) rfl
variable (kit : Kit)
theorem p_lenL : (BI.fn kit .len [.lst a] st).tx E Q = Q (.int a.length) st := Eq.trans (Eq.refl _) rfl
theorem p_lenT : (BI.fn kit .len [.tup a] st).tx E Q = Q (.int a.length) st := Eq.trans (Eq.refl _) rfl
theorem p_lenS : (BI.fn kit .len [.str x] st).tx E Q = (x.length ≤ sizeLine ∧ Q (.int x.length) st) := to_if _ _ _
theorem p_intI : (BI.fn kit .int [.int i] st).tx E Q = Q (.int i) st := Eq.trans (Eq.refl _) rfl
theorem p_abs : (BI.fn kit .abs [.int i] st).tx E Q = Q (.int (if i < 0 then -i else i)) st := Eq.trans (Eq.refl _) rfl
theorem p_max : (BI.fn kit .max [.int i, .int j] st).tx E Q = Q (.int (if j > i then j else i)) st := Eq.trans (Eq.refl _) rfl
theorem p_min : (BI.fn kit .min [.int i, .int j] st).tx E Q = Q (.int (if j < i then j else i)) st := Eq.trans (Eq.refl _) rfl
theorem p_divmod : (BI.fn kit .divmod [.int i, .int j] st).tx E Q = ((0 < j ∧ j < 1073741824) ∧ Q (.tup [.int (i / j), .int (i % j)]) st) := to_if _ _ _
theorem p_tupT : (BI.fn kit .tuple [.tup a] st).tx E Q = Q (.tup a) st := Eq.trans (Eq.refl _) rfl
theorem p_tupL : (BI.fn kit .tuple [.lst a] st).tx E Q = Q (.tup a) st := Eq.trans (Eq.refl _) rfl
theorem p_tupR (l : Nat) : (BI.fn kit .tuple [.ref l] st).tx E Q = asLst st[l]? fun xs => Q (.tup xs) st := by
  show (tupleP [.ref l] st).tx E Q = _
  unfold tupleP
  dsimp only
  cases st[l]? with
  | none => rfl
  | some o => cases o <;> rfl
theorem p_all : (BI.fn kit .all [.lst a] st).tx E Q = oto (blsD a) fun bs => Q (.bl (bs.all id)) st := by
  show (okO ((blsD a).map fun bs => D.bl (bs.all id)) st).tx E Q = _
  rw [to_okO]
  cases blsD a <;> rfl
theorem p_any : (BI.fn kit .any [.lst a] st).tx E Q = oto (blsD a) fun bs => Q (.bl (bs.any id)) st := by
  show (okO ((blsD a).map fun bs => D.bl (bs.any id)) st).tx E Q = _
  rw [to_okO]
  cases blsD a <;> rfl
theorem p_repr (d : D) : (BI.fn kit .repr [d] st).tx E Q = oto (reprS d) fun x => Q (.str x) st := by
  show (okO ((reprS d).map D.str) st).tx E Q = _
  rw [to_okO]
  cases reprS d <;> rfl
theorem p_isi (d e : D) : (BI.fn kit .isi [d, e] st).tx E Q = oto (d.tn st) fun t => oto e.asTn fun u => oto (kit.lookup (t, u)) fun b => Q (.bl b) st := by
  show (isiP kit [d, e] st).tx E Q = _
  unfold isiP
  dsimp only
  cases d.tn st with
  | none => rfl
  | some t =>
    cases e.asTn with
    | none => rfl
    | some u =>
      show (match kit.lookup (t, u) with
        | some b => R.ok (D.bl b) st
        | none => .stuck).tx E Q = oto (kit.lookup (t, u)) _
      cases kit.lookup (t, u) <;> rfl
def asRef (d : D) (Q : Nat → Prop) : Prop := match d with
  | .ref l => Q l
  | _ => False
theorem asRef_r (l : Nat) (Q : Nat → Prop) : asRef (.ref l) Q = Q l := Eq.trans (Eq.refl _) rfl
theorem p_app (fo fa : Sh) (ρ : Env) : (shApp fo fa ρ st).tx E Q = (fo ρ st).tx E fun d st => asRef d fun l => asLst st[l]? fun _ => (fa ρ st).tx E fun x st => asLst st[l]? fun xs => xs.length < sizeLine ∧ Q .non (st.set l (.lst (xs ++ [x]))) := by
  unfold shApp
  rw [to_bind]
  congr 1; funext d st
  cases d <;> try rfl
  rename_i l
  dsimp only
  rw [asRef_r]
  cases q : st[l]? with
  | none => rfl
  | some o =>
    cases o with
    | lst ys =>
      show R.tx ((fa ρ st).bind fun x st => appP (.ref l) x st) E Q = (fa ρ st).tx E _
      rw [to_bind]
      congr 1; funext x st
      unfold appP
      dsimp only
      cases st[l]? with
      | none => rfl
      | some o => cases o <;> first | rfl | exact to_if _ _ _
    | _ => rfl
def asL (d : D) (Q : List D → Prop) : Prop := match d with
  | .lst xs => Q xs
  | _ => False
theorem asL_l (a : List D) (Q : List D → Prop) : asL (.lst a) Q = Q a := Eq.trans (Eq.refl _) rfl
theorem p_idx (fo fa : Sh) (ρ : Env) : (shIdx fo fa ρ st).tx E Q = (fo ρ st).tx E fun d st => asL d fun xs => (fa ρ st).tx E fun x st => (flatD x && xs.all flatD) = true ∧ oto (xs.findIdx? fun z => eqF z x) fun j => Q (.int (j : Nat)) st := by
  unfold shIdx
  rw [to_bind]
  congr 1; funext d st
  cases d <;> try rfl
  rename_i xs
  show R.tx ((fa ρ st).bind fun x st => idxP (.lst xs) x st) E Q = (fa ρ st).tx E _
  rw [to_bind]
  congr 1; funext x st
  show R.tx (if (flatD x && xs.all flatD) = true then okO ((xs.findIdx? fun z => eqF z x).map fun j => .int (j : Nat)) st else .stuck) E Q = _
  rw [to_if, to_okO]
  cases xs.findIdx? fun z => eqF z x <;> rfl
variable (QL : List D → Store → Prop)
theorem p_itL : (itD (.lst a) st).tx E QL = QL a st := Eq.trans (Eq.refl _) rfl
theorem p_itT : (itD (.tup a) st).tx E QL = QL a st := Eq.trans (Eq.refl _) rfl
theorem p_rng1 : (rng1D [.int j] st).tx E QL = ((-(2 ^ 62) ≤ j ∧ j < 2 ^ 62) ∧ QL (rng 0 j.toNat) st) := to_if _ _ _
theorem p_rng2 : (rng2D [.int i, .int j] st).tx E QL = ((-(2 ^ 62) ≤ i ∧ i < 2 ^ 62 ∧ -(2 ^ 62) ≤ j ∧ j < 2 ^ 62) ∧ QL (rng i (j - i).toNat) st) := to_if _ _ _
theorem p_enmT : (enumD [.tup a] st).tx E QL = QL (enumL a) st := Eq.trans (Eq.refl _) rfl
theorem p_enmL : (enumD [.lst a] st).tx E QL = QL (enumL a) st := Eq.trans (Eq.refl _) rfl
end
def endPoE (E : Ex) (Q : D → Store → Prop) : Po := { nx := fun _ st => Q .non st, rt := Q, bk := fun _ _ => False, ct := fun _ _ => False, ex := E }
abbrev endPo (Q : D → Store → Prop) : Po := endPoE noE Q
theorem to_endR (r : RS) {E : Ex} (Q : D → Store → Prop) : (endR r).tx E Q = r.to (endPoE E Q) := by cases r <;> rfl
/-- a def, entered -/
theorem enter {tb : Tb} {dl : List Df} {k n : Nat} {d : Dd} {kws : List Str} {ds xs : List D} {st : Store} {Q : D → Store → Prop} (hd : dl[n]? = some (.fn d)) (hb : bindD d.sh d.pv.isSome kws ds = some xs) :
    (sem tb dl (k + 1) n kws ds st).tx E Q = (denB tb (sem tb dl k) d.is (startD d.N xs) st).to (endPoE E Q) := by
  have e : sem tb dl (k + 1) n = match dl[n]? with
    | some df => df.sem tb (sem tb dl k)
    | none => fun _ _ _ => .stuck := rfl
  rw [e, hd]
  show (defP d.sh d.pv.isSome d.N (denB tb (sem tb dl k) d.is) kws ds st).tx E Q = _
  unfold defP
  rw [hb]
  exact to_endR _ _
theorem enter_mk {tb : Tb} {dl : List Df} {k n i : Nat} {C : Str} {kws : List Str} {ds : List D} {st : Store} {Q : D → Store → Prop} (hd : dl[n]? = some (.mk C i)) :
    (sem tb dl (k + 1) n kws ds st).tx E Q = (sem tb dl k i kws (.ref st.length :: ds) (st ++ [.ins C []])).tx E fun d st' => d = .non ∧ (frzR (.ref st.length) st').tx E Q := by
  have e : sem tb dl (k + 1) n = match dl[n]? with
    | some df => df.sem tb (sem tb dl k)
    | none => fun _ _ _ => .stuck := rfl
  rw [e, hd]
  show (makeP C (sem tb dl k i kws) ds st).tx E Q = _
  unfold makeP
  rw [to_bind]
  congr 1; funext d st'
  cases d <;> simp [R.tx]
theorem mul_ok {i j : Int} (h1 : -(2 ^ 250) < i) (h2 : i < 2 ^ 250) (h3 : -(2 ^ 250) < j) (h4 : j < 2 ^ 250) : i.natAbs.log2 + j.natAbs.log2 < 1000000 := by
  have e1 : i.natAbs < 2 ^ 250 := by omega
  have e2 : j.natAbs < 2 ^ 250 := by omega
  have f : ∀ n : Nat, n < 2 ^ 250 → n.log2 ≤ 250 := fun n h => by
    by_cases z : n = 0
    · subst z; decide
    · have := (Nat.log2_lt z).mpr h
      omega
  have := f _ e1
  have := f _ e2
  omega
end DV

namespace DV
theorem atI_0 {α : Type} {a : α} {as : List α} : L2.atI (a :: as) 0 = some a := by
  unfold L2.atI L2.ixN
  rw [if_pos (by decide), if_pos (by simp only [List.length_cons]; omega)]
  rfl
theorem atI_1 {α : Type} {a b : α} {as : List α} : L2.atI (a :: b :: as) 1 = some b := by
  unfold L2.atI L2.ixN
  rw [if_pos (by decide), if_pos (by simp only [List.length_cons]; omega)]
  rfl
theorem atI_2 {α : Type} {a b c : α} {as : List α} : L2.atI (a :: b :: c :: as) 2 = some c := by
  unfold L2.atI L2.ixN
  rw [if_pos (by decide), if_pos (by simp only [List.length_cons]; omega)]
  rfl
theorem atI_3 {α : Type} {a b c d : α} {as : List α} : L2.atI (a :: b :: c :: d :: as) 3 = some d := by
  unfold L2.atI L2.ixN
  rw [if_pos (by decide), if_pos (by simp only [List.length_cons]; omega)]
  rfl
theorem atI_4 {α : Type} {a b c d e : α} {as : List α} : L2.atI (a :: b :: c :: d :: e :: as) 4 = some e := by
  unfold L2.atI L2.ixN
  rw [if_pos (by decide), if_pos (by simp only [List.length_cons]; omega)]
  rfl
theorem ixN_0 {n : Nat} : L2.ixN (n + 1) 0 = some 0 := by
  unfold L2.ixN
  rw [if_pos (by decide), if_pos (by omega)]
  rfl
theorem ixN_1 {n : Nat} : L2.ixN (n + 2) 1 = some 1 := by
  unfold L2.ixN
  rw [if_pos (by decide), if_pos (by omega)]
  rfl
theorem ixN_2 {n : Nat} : L2.ixN (n + 3) 2 = some 2 := by
  unfold L2.ixN
  rw [if_pos (by decide), if_pos (by omega)]
  rfl
theorem ixN_3 {n : Nat} : L2.ixN (n + 4) 3 = some 3 := by
  unfold L2.ixN
  rw [if_pos (by decide), if_pos (by omega)]
  rfl
theorem ixN_4 {n : Nat} : L2.ixN (n + 5) 4 = some 4 := by
  unfold L2.ixN
  rw [if_pos (by decide), if_pos (by omega)]
  rfl
/-! ### stores -/
/-- the rest stays, more may have come -/
def FrS (l : Nat) (st st' : Store) : Prop := st.length ≤ st'.length ∧ ∀ i, i < st.length → i ≠ l → st'[i]? = st[i]?
def FrA (st st' : Store) : Prop := st.length ≤ st'.length ∧ ∀ i, i < st.length → st'[i]? = st[i]?
theorem FrA.refl (st : Store) : FrA st st := ⟨Nat.le_refl _, fun _ _ => rfl⟩
theorem FrA.trans {a b c : Store} (h : FrA a b) (g : FrA b c) : FrA a c := ⟨Nat.le_trans h.1 g.1, fun i hi => (g.2 i (Nat.lt_of_lt_of_le hi h.1)).trans (h.2 i hi)⟩
theorem FrS.refl (l : Nat) (st : Store) : FrS l st st := ⟨Nat.le_refl _, fun _ _ _ => rfl⟩
theorem FrS.trans {l : Nat} {a b c : Store} (h : FrS l a b) (g : FrS l b c) : FrS l a c := ⟨Nat.le_trans h.1 g.1, fun i hi n => (g.2 i (Nat.lt_of_lt_of_le hi h.1) n).trans (h.2 i hi n)⟩
theorem FrA.s {l : Nat} {a b : Store} (h : FrA a b) : FrS l a b := ⟨h.1, fun i hi _ => h.2 i hi⟩
theorem FrA.app (st t : Store) : FrA st (st ++ t) := ⟨by simp, fun i hi => List.getElem?_append_left hi⟩
theorem FrS.set {l : Nat} {st : Store} {o : MO} : FrS l st (st.set l o) := ⟨by simp, fun i hi n => List.getElem?_set_ne (Ne.symm n)⟩
/-- what is set behind the old store -/
theorem FrA.set {a b : Store} {l : Nat} {o : MO} (h : FrA a b) (hl : a.length ≤ l) : FrA a (b.set l o) := ⟨by simpa using h.1, fun i hi => (List.getElem?_set_ne (by omega)).trans (h.2 i hi)⟩
theorem FrA.get {a b : Store} {l : Nat} {o : MO} (h : FrA a b) (e : a[l]? = some o) : b[l]? = some o := (h.2 l (List.getElem?_eq_some_iff.mp e).1).trans e
theorem FrS.get {a b : Store} {l m : Nat} {o : MO} (h : FrS l a b) (n : m ≠ l) (e : a[m]? = some o) : b[m]? = some o := (h.2 m (List.getElem?_eq_some_iff.mp e).1 n).trans e
/-- a law's pool of draws: no more than n were made -/
def Pool (n : Int) (st : Store) (l : Nat) : Prop := ∃ s g c : Int, st[l]? = some (.lst [.int s, .int g, .int c]) ∧ 0 ≤ s ∧ s < 2147483629 ∧ 0 ≤ g ∧ 0 ≤ c ∧ c ≤ n
theorem Pool.mono {n m : Int} {st : Store} {l : Nat} (h : Pool n st l) (le : n ≤ m) : Pool m st l := by
  obtain ⟨s, g, c, h1, h2, h3, h4, h5, h6⟩ := h
  exact ⟨s, g, c, h1, h2, h3, h4, h5, by omega⟩
theorem Pool.fr {n : Int} {st st' : Store} {l : Nat} (h : Pool n st l) (f : FrA st st') : Pool n st' l := by
  obtain ⟨s, g, c, h1, h2⟩ := h
  exact ⟨s, g, c, f.get h1, h2⟩
theorem Pool.frS {n : Int} {st st' : Store} {l m : Nat} (h : Pool n st m) (f : FrS l st st') (ne : m ≠ l) : Pool n st' m := by
  obtain ⟨s, g, c, h1, h2⟩ := h
  exact ⟨s, g, c, f.get ne h1, h2⟩
end DV

namespace DV
open PySem PySem.Spec PyProof.Rows L2
theorem tn_non (st : Store) : D.tn st .non = some (.ty "NoneType") := Eq.trans (Eq.refl _) rfl
theorem tn_bl (st : Store) (b : Bool) : D.tn st (.bl b) = some (.ty "bool") := Eq.trans (Eq.refl _) rfl
theorem tn_int (st : Store) (b : Int) : D.tn st (.int b) = some (.ty "int") := Eq.trans (Eq.refl _) rfl
theorem tn_str (st : Store) (b : Str) : D.tn st (.str b) = some (.ty "str") := Eq.trans (Eq.refl _) rfl
theorem tn_tup (st : Store) (b : List D) : D.tn st (.tup b) = some (.ty "tuple") := Eq.trans (Eq.refl _) rfl
theorem tn_lst (st : Store) (b : List D) : D.tn st (.lst b) = some (.ty "list") := Eq.trans (Eq.refl _) rfl
theorem tn_dK (st : Store) (b : List (Key × D)) : D.tn st (.dK b) = some (.ty "dict") := Eq.trans (Eq.refl _) rfl
theorem tn_ins (st : Store) (c : Str) (b : List (Str × D)) : D.tn st (.ins c b) = some (.own c) := Eq.trans (Eq.refl _) rfl
theorem asTn_ty (n : String) : D.asTn (.ty n) = some (.ty n) := Eq.trans (Eq.refl _) rfl
theorem asTn_glo (n : Str) : D.asTn (.glo n) = some (.own n) := Eq.trans (Eq.refl _) rfl
theorem tru_bl (t : Bool) (a b : Prop) : tru (.bl t) a b = ((t = true → a) ∧ (t = false → b)) := Eq.trans (Eq.refl _) rfl
theorem tru_non (a b : Prop) : tru .non a b = b := by simp [tru, truP]
theorem tru_int (i : Int) (a b : Prop) : tru (.int i) a b = (((i != 0) = true → a) ∧ ((i != 0) = false → b)) := Eq.trans (Eq.refl _) rfl
theorem tru_lst (xs : List D) (a b : Prop) : tru (.lst xs) a b = (((!xs.isEmpty) = true → a) ∧ ((!xs.isEmpty) = false → b)) := Eq.trans (Eq.refl _) rfl
theorem tru_tup (xs : List D) (a b : Prop) : tru (.tup xs) a b = (((!xs.isEmpty) = true → a) ∧ ((!xs.isEmpty) = false → b)) := Eq.trans (Eq.refl _) rfl
theorem truP_bl (t : Bool) : truP (.bl t) = some t := Eq.trans (Eq.refl _) rfl
theorem truP_non : truP .non = some false := Eq.trans (Eq.refl _) rfl
theorem truP_int (i : Int) : truP (.int i) = some (i != 0) := Eq.trans (Eq.refl _) rfl
theorem truP_lst (xs : List D) : truP (.lst xs) = some (!xs.isEmpty) := Eq.trans (Eq.refl _) rfl
theorem truP_tup (xs : List D) : truP (.tup xs) = some (!xs.isEmpty) := Eq.trans (Eq.refl _) rfl
theorem isNon_non : isNonD .non = true := Eq.trans (Eq.refl _) rfl
theorem isNon_int (i : Int) : isNonD (.int i) = false := Eq.trans (Eq.refl _) rfl
theorem isNon_tup (i : List D) : isNonD (.tup i) = false := Eq.trans (Eq.refl _) rfl
theorem isNon_lst (i : List D) : isNonD (.lst i) = false := Eq.trans (Eq.refl _) rfl
theorem isNon_str (i : Str) : isNonD (.str i) = false := Eq.trans (Eq.refl _) rfl
theorem isNon_ins (c : Str) (i : List (Str × D)) : isNonD (.ins c i) = false := Eq.trans (Eq.refl _) rfl
theorem seqD_tup (st : Store) (xs : List D) : seqD (.tup xs) st = some xs := Eq.trans (Eq.refl _) rfl
theorem seqD_lst (st : Store) (xs : List D) : seqD (.lst xs) st = some xs := Eq.trans (Eq.refl _) rfl
theorem insOf_ins (st : Store) (c : Str) (fs : List (Str × D)) : D.insOf (.ins c fs) st = some (c, fs) := Eq.trans (Eq.refl _) rfl
def asIns (o : Option MO) (Q : Str → List (Str × D) → Prop) : Prop := match o with
  | some (.ins c fs) => Q c fs
  | _ => False
theorem asIns_i (c : Str) (fs : List (Str × D)) (Q : Str → List (Str × D) → Prop) : asIns (some (.ins c fs)) Q = Q c fs := Eq.trans (Eq.refl _) rfl
theorem p_putA (cs : List Str) (f : Str) (l : Nat) (x : D) (st : Store) {E : Ex} (Q : D → Store → Prop) : (putAP cs f (.ref l) x st).tx E Q = asIns st[l]? fun c fs => (cs.contains c && decide (fs.length < 1000)) = true ∧ Q .non (st.set l (.ins c (putFD f x fs))) := by
  unfold putAP
  dsimp only
  cases st[l]? with
  | none => rfl
  | some o => cases o <;> first | rfl | exact to_if _ _ _
theorem p_frzI {l : Nat} {st : Store} {c : Str} {fs : List (Str × D)} {E : Ex} {Q : D → Store → Prop} (h : st[l]? = some (.ins c fs)) (q : Q (.ins c fs) (st.set l .dead)) : (frzR (.ref l) st).tx E Q := by
  unfold frzR
  dsimp only
  rw [h]
  exact q
theorem p_frzL {l : Nat} {st : Store} {xs : List D} {E : Ex} {Q : D → Store → Prop} (h : st[l]? = some (.lst xs)) (q : Q (.lst xs) (st.set l .dead)) : (frzR (.ref l) st).tx E Q := by
  unfold frzR
  dsimp only
  rw [h]
  exact q
theorem bind_star1 {a : D} {ds : List D} {sh : Shapes} (h : ds.length ≤ sizeLine) : bindD (([], 1, [0]) :: sh) true [] (a :: ds) = some [a, .tup ds] := by
  unfold bindD
  rw [List.find?_cons]
  have e : (([] : List Str) == [] && (if (true && List.isEmpty ([] : List Str)) = true then decide (1 ≤ (a :: ds).length) else 1 + ([] : List Str).length == (a :: ds).length)) = true := by
    simp
  dsimp only at e ⊢
  rw [e]
  simp [h]
theorem bind_star2 {a b : D} {ds : List D} {sh : Shapes} (h : ds.length ≤ sizeLine) : bindD (([], 2, [0, 1]) :: sh) true [] (a :: b :: ds) = some [a, b, .tup ds] := by
  unfold bindD
  rw [List.find?_cons]
  have e : (([] : List Str) == [] && (if (true && List.isEmpty ([] : List Str)) = true then decide (2 ≤ (a :: b :: ds).length) else 2 + ([] : List Str).length == (a :: b :: ds).length)) = true := by
    simp
  dsimp only at e ⊢
  rw [e]
  simp [h]
theorem atI_mem {α : Type} {xs : List α} {i : Int} (h0 : 0 ≤ i) (h1 : i < xs.length) : ∃ a ∈ xs, atI xs i = some a := by
  unfold atI ixN
  rw [if_pos h0, if_pos h1]
  refine ⟨xs[i.toNat]'(by omega), List.getElem_mem _, ?_⟩
  show xs[i.toNat]? = _
  rw [List.getElem?_eq_getElem]
theorem atI_get {α : Type} {xs : List α} {i : Nat} {a : α} (h : xs[i]? = some a) : atI xs (i : Int) = some a := by
  have hl := (List.getElem?_eq_some_iff.mp h).1
  unfold atI ixN
  rw [if_pos (by omega), if_pos (by omega)]
  show xs[((i : Int)).toNat]? = _
  rw [Int.toNat_natCast]
  exact h
theorem bls_map {α : Type} (p : α → Bool) : ∀ xs : List α, blsD (xs.map fun x => .bl (p x)) = some (xs.map p)
  | [] => rfl
  | x :: xs => by
    show (match blD (.bl (p x)), blsD (xs.map fun x => D.bl (p x)) with
      | some b, some bs => some (b :: bs)
      | _, _ => none) = _
    rw [bls_map p xs]
    rfl
theorem enum_mem {xs : List D} {d : D} (h : d ∈ enumL xs) : ∃ (i : Nat) (x : D), x ∈ xs ∧ d = .tup [.int i, x] := by
  unfold enumL at h
  obtain ⟨i, hi, e⟩ := List.mem_mapIdx.mp h
  exact ⟨i, xs[i], List.getElem_mem _, e.symm⟩
theorem p_dzip (xs ys : List D) (st : Store) {E : Ex} (Q : D → Store → Prop) : (dictZipP (.tup xs) (.tup ys) st).tx E Q = oto (zipK xs ys) fun kvs => Q (.dK (mergeKD [] kvs)) st := by
  unfold dictZipP
  dsimp only
  rw [to_okO]
  cases zipK xs ys <;> rfl
/-- a comprehension without a test, each turn gives one value of its own -/
theorem lc_map {α : Type} {tb : Tb} {G : Gam} {t : Tgd} {el : IE} {ρ : Env} {E : Ex} {Q : List D → Store → Prop} {st : Store} (f : α → D) (g : α → D) (xs : List α) (n : Nat)
    (step : ∀ x ∈ xs, oto (t.set (f x) ρ) fun ρ1 => (den tb G el ρ1 st).tx noE fun y st' => y = g x ∧ st' = st) (hn : n + xs.length ≤ sizeLine) (acc : List D) (ha : acc.length = n) (fin : Q (acc ++ xs.map g) st) :
    (lcP t (denT tb G .nop) (den tb G el) ρ (xs.map f) acc st).tx E Q := by
  refine lc_inv (fun ds a st' => ∃ ys : List α, ds = ys.map f ∧ (∀ y ∈ ys, y ∈ xs) ∧ a ++ ys.map g = acc ++ xs.map g ∧ st' = st) ?_ ?_ _ _ _ ⟨xs, rfl, fun y hy => hy, rfl, rfl⟩
  · rintro d ds a st' ⟨ys, e1, e2, e3, e4⟩
    have e4 := e4.symm
    subst e4
    cases ys with
    | nil => cases e1
    | cons y ys =>
      simp only [List.map_cons, List.cons.injEq] at e1
      obtain ⟨e1, e5⟩ := e1
      subst e1 e5
      have s := step y (e2 y (List.mem_cons_self ..))
      cases q : t.set (f y) ρ with
      | none => rw [q] at s; exact s
      | some ρ1 =>
        rw [q] at s
        show R.tx _ _ _
        rw [denT_nop]
        refine ⟨fun _ => R.to_mono s ?_, fun z => by cases z⟩
        rintro y' st2 ⟨h1, h2⟩
        subst h1
        refine ⟨?_, ys, rfl, fun z hz => e2 z (List.mem_cons_of_mem _ hz), by rw [← e3]; simp, h2⟩
        have := congrArg List.length e3
        simp at this
        omega
  · rintro a st' ⟨ys, e1, e2, e3, e4⟩
    cases ys with
    | nil =>
      simp only [List.map_nil, List.append_nil] at e3
      rw [e3, e4]
      exact fin
    | cons y ys => cases e1
end DV

namespace DV
open PySem PySem.Spec PyProof.Rows L2
theorem to_calm {α : Type} (r : R α) {E : Ex} (Q : α → Store → Prop) : r.calm.tx E Q = r.tx noE Q := by cases r <;> rfl
section
variable (tb : Tb) (G : Gam) (ρ : Env) (st : Store) {E : Ex} (Q : D → Store → Prop)
theorem w_prp (f : Str) (o : IE) : (den tb G (.prp f o) ρ st).tx E Q = (den tb G o ρ st).tx E fun d st => oto (prpN ((tb.prps.lookup f).getD []) d st) fun n => (G n [] [d] st).tx noE Q := by
  rw [den]
  unfold shPrp
  simp only [to_bind]
  congr 1; funext d st
  cases prpN ((tb.prps.lookup f).getD []) d st with
  | none => rfl
  | some n => exact to_calm _ _
theorem w_dun (b : Dn) (e : IE) : (den tb G (.dun b e) ρ st).tx E Q = (den tb G e ρ st).tx E fun d st => (dunP G tb.dun b d st).tx E Q := by
  rw [den]
  unfold shDun shCB evs
  simp only [to_bind, evs, to_ret]
  rfl
theorem w_fmt (e : IE) : (den tb G (.fmt e) ρ st).tx E Q = (den tb G e ρ st).tx E fun d st => (fmtP d st).tx E Q := by
  rw [den]
  unfold shFmt
  simp only [to_bind]
def jsTo (E : Ex) (es : List IE) (acc : Str) (ρ : Env) (st : Store) (Q : D → Store → Prop) : Prop := (shJs (dens tb G es) acc ρ st).tx E Q
theorem w_fst (es : List IE) : (den tb G (.fst es) ρ st).tx E Q = jsTo tb G E es Str.empty ρ st Q := by rw [den]; rfl
theorem js_nil (acc : Str) : jsTo tb G E [] acc ρ st Q = Q (.str acc) st := by
  unfold jsTo
  rw [dens]; rfl
def asStr (d : D) (Q : Str → Prop) : Prop := match d with
  | .str i => Q i
  | _ => False
theorem asStr_s (i : Str) (Q : Str → Prop) : asStr (.str i) Q = Q i := Eq.trans (Eq.refl _) rfl
theorem js_cons (e : IE) (es : List IE) (acc : Str) : jsTo tb G E (e :: es) acc ρ st Q = (den tb G e ρ st).tx E fun d st => asStr d fun y => (acc ++ y).length ≤ sizeLine ∧ jsTo tb G E es (acc ++ y) ρ st Q := by
  unfold jsTo
  rw [dens, shJs]
  simp only [to_bind]
  congr 1; funext d st
  cases d <;> try rfl
  exact to_if _ _ _
theorem p_fmtS (y : Str) : (fmtP (.str y) st).tx E Q = (y.length ≤ sizeLine ∧ Q (.str y) st) := to_if _ _ _
theorem p_fmtI (i : Int) : (fmtP (.int i) st).tx E Q = (i.natAbs.log2 < 1920 ∧ Q (.str (toString i)) st) := to_if _ _ _
variable (u : Dun) (i : Int) (a : List D) (x C : Str) (fs : List (Str × D)) (s : Bool)
theorem p_dlenI : (dunP G u .len (.ins C fs) st).tx E Q = oto (u.get "__len__" C) fun n => (G n [] [.ins C fs] st).tx E fun r st => asInt r fun i => (0 ≤ i ∧ i < 2 ^ 63) ∧ Q (.int i) st := by
  show (match u.get "__len__" C with
    | some n => (G n [] [.ins C fs] st).bind lenR
    | none => .stuck).tx E Q = _
  cases u.get "__len__" C with
  | none => rfl
  | some n =>
    show R.tx ((G n [] [.ins C fs] st).bind lenR) E Q = (G n [] [.ins C fs] st).tx E _
    rw [to_bind]
    congr 1; funext r st
    cases r <;> try rfl
    exact to_if _ _ _
theorem p_dreprI : (dunP G u .repr (.ins C fs) st).tx E Q = oto (u.get "__repr__" C) fun n => (G n [] [.ins C fs] st).tx E fun r st => asStr r fun i => Q (.str i) st := by
  show (match u.get "__repr__" C with
    | some n => (G n [] [.ins C fs] st).bind strR
    | none => .stuck).tx E Q = _
  cases u.get "__repr__" C with
  | none => rfl
  | some n =>
    show R.tx ((G n [] [.ins C fs] st).bind strR) E Q = (G n [] [.ins C fs] st).tx E _
    rw [to_bind]
    congr 1; funext r st
    cases r <;> rfl
theorem p_dboolI : (dunP G u .bool (.ins C fs) st).tx E Q = oto (u.get "__len__" C) fun n => u.not "__bool__" C = true ∧ (G n [] [.ins C fs] st).tx E fun r st => asInt r fun i => (0 ≤ i ∧ i < 2 ^ 63) ∧ Q (.bl (i != 0)) st := by
  show (match u.get "__len__" C with
    | some n => if u.not "__bool__" C = true then (G n [] [.ins C fs] st).bind booR else .stuck
    | none => .stuck).tx E Q = _
  cases u.get "__len__" C with
  | none => rfl
  | some n =>
    show R.tx (if u.not "__bool__" C = true then (G n [] [.ins C fs] st).bind booR else .stuck) E Q = (u.not "__bool__" C = true ∧ (G n [] [.ins C fs] st).tx E _)
    rw [to_if, to_bind]
    congr 2; funext r st
    cases r <;> try rfl
    exact to_if _ _ _
theorem p_dlenL : (dunP G u .len (.lst a) st).tx E Q = Q (.int a.length) st := Eq.trans (Eq.refl _) rfl
theorem p_dlenT : (dunP G u .len (.tup a) st).tx E Q = Q (.int a.length) st := Eq.trans (Eq.refl _) rfl
theorem p_dlenS : (dunP G u .len (.str x) st).tx E Q = (x.length ≤ sizeLine ∧ Q (.int x.length) st) := to_if _ _ _
theorem rep_o (d : D) : (reprP [d] st).tx E Q = oto (reprS d) fun x => Q (.str x) st := by
  show (okO ((reprS d).map D.str) st).tx E Q = _
  rw [to_okO]
  cases reprS d <;> rfl
theorem p_dreprL : (dunP G u .repr (.lst a) st).tx E Q = oto (reprS (.lst a)) fun x => Q (.str x) st := rep_o _ _ _
theorem p_dreprT : (dunP G u .repr (.tup a) st).tx E Q = oto (reprS (.tup a)) fun x => Q (.str x) st := rep_o _ _ _
theorem p_dreprS : (dunP G u .repr (.str x) st).tx E Q = oto (reprS (.str x)) fun x => Q (.str x) st := rep_o _ _ _
theorem p_dreprN : (dunP G u .repr (.int i) st).tx E Q = oto (reprS (.int i)) fun x => Q (.str x) st := rep_o _ _ _
theorem p_dreprB : (dunP G u .repr (.bl s) st).tx E Q = oto (reprS (.bl s)) fun x => Q (.str x) st := rep_o _ _ _
theorem p_dreprO : (dunP G u .repr .non st).tx E Q = oto (reprS .non) fun x => Q (.str x) st := by
  rw [show dunP G u .repr .non st = reprP [.non] st from rfl]
  exact rep_o st Q .non
theorem p_dboolN : (dunP G u .bool (.int i) st).tx E Q = Q (.bl (i != 0)) st := Eq.trans (Eq.refl _) rfl
theorem p_dboolB : (dunP G u .bool (.bl s) st).tx E Q = Q (.bl s) st := Eq.trans (Eq.refl _) rfl
theorem p_dboolL : (dunP G u .bool (.lst a) st).tx E Q = Q (.bl (!a.isEmpty)) st := Eq.trans (Eq.refl _) rfl
theorem p_strI (kit : Kit) : (BI.fn kit .str [.int i] st).tx E Q = (i.natAbs.log2 < 1920 ∧ Q (.str (toString i)) st) := to_if _ _ _
theorem p_strS (kit : Kit) : (BI.fn kit .str [.str x] st).tx E Q = Q (.str x) st := Eq.trans (Eq.refl _) rfl
end
/-! ### errors -/
section
variable (tb : Tb) (G : Gam) (ρ : Env) (st : Store) (P : Po)
theorem s_raise0 (x : Str) : (denS tb G (.raise0 x) ρ st).to P = P.ex x [] st := by rw [denS]; rfl
/-- what becomes of an error of the body -/
def tryTo (g : Str) (i : Nat) (su : List IS) (P : Po) (ρ : Env) : Ex := fun cn fs st => match fs, tb.xm.lookup (cn, g) with
  | [], some true => (denB tb G su (ρ.set i (.exn cn [])) st).to { nx := fun ρ st => P.nx ((clr ρ).set i .un) st, rt := P.rt, bk := fun ρ st => P.bk ((clr ρ).set i .un) st, ct := fun ρ st => P.ct ((clr ρ).set i .un) st }
  | fs, some false => P.ex cn fs st
  | _, _ => False
/-- a try whose body sets nothing ahead of its errors -/
theorem s_try (g : Str) (i : Nat) (a b : List IS) (h : ∀ cn fs ρ1 st1, denB tb G a ρ st = .ex cn fs ρ1 st1 → clr ρ1 = clr ρ) (q : (denB tb G a ρ st).to { P with ex := tryTo tb G g i b P (clr ρ) }) : (denS tb G (.tryx g i a b) ρ st).to P := by
  rw [denS]
  unfold stTry
  cases e : denB tb G a ρ st with
  | nx ρ1 st1 => rw [e] at q; exact q
  | rt d st1 => rw [e] at q; exact q
  | bk ρ1 st1 => rw [e] at q; exact q
  | ct ρ1 st1 => rw [e] at q; exact q
  | stuck => rw [e] at q; exact q
  | ex cn fs ρ1 st1 =>
    rw [e] at q
    have e1 := h cn fs ρ1 st1 e
    have q : tryTo tb G g i b P (clr ρ) cn fs st1 := q
    unfold tryTo at q
    dsimp only
    rw [e1]
    cases ql : tb.xm.lookup (cn, g) with
    | none => rw [ql] at q; cases fs <;> exact q.elim
    | some t =>
      rw [ql] at q
      cases t with
      | false => cases fs <;> exact q
      | true =>
        cases fs with
        | cons _ _ => exact q.elim
        | nil =>
          dsimp only at q ⊢
          cases e2 : denB tb G b ((clr ρ).set i (.exn cn [])) st1 with
          | nx ρ2 st2 => rw [e2] at q; exact q
          | rt d st2 => rw [e2] at q; exact q
          | bk ρ2 st2 => rw [e2] at q; exact q
          | ct ρ2 st2 => rw [e2] at q; exact q
          | stuck => rw [e2] at q; exact q
          | ex _ _ _ _ => rw [e2] at q; exact q.elim
end
def asExn (o : Option Sl) (Q : Str → Prop) : Prop := match o with
  | some (.exn cn _) => Q cn
  | _ => False
theorem asExn_e (cn : Str) (fs : List (Str × D)) (Q : Str → Prop) : asExn (some (.exn cn fs)) Q = Q cn := Eq.trans (Eq.refl _) rfl
theorem w_xisi (tb : Tb) (G : Gam) (ρ : Env) (st : Store) {E : Ex} (Q : D → Store → Prop) (i : Nat) (g : Str) : (den tb G (.xisi i g) ρ st).tx E Q = asExn ρ[i]? fun cn => oto (tb.xk.lookup (cn, g)) fun b => Q (.bl b) st := by
  rw [den]
  unfold shXisi asExn
  cases ρ[i]? with
  | none => rfl
  | some s =>
    cases s with
    | exn cn fs =>
      dsimp only
      cases tb.xk.lookup (cn, g) <;> rfl
    | _ => rfl
end DV

namespace K22
open PySem PySem.Spec PyProof.Rows L2 DV
abbrev pp : Program := PySem.Challenge.pw_crossedits_k22_bounds
def is0 : List IS := [IS.ret
   (IE.and
     (IE.bi (DV.BI.isi) [IE.var 0, IE.ty "int"])
     (IE.not (IE.bi (DV.BI.isi) [IE.var 0, IE.ty "bool"])))]
def d0 : Dd := mkDd ("is_integer", none) "is_integer" (dStmt pp "is_integer") ["value"] none ["value"] [([], 1, [0])] is0
def is1 : List IS := [IS.ret
   (IE.and
     (IE.bi (DV.BI.isi) [IE.var 0, IE.ty "str"])
     (IE.cmp (PySem.CmpOp.In) (IE.var 0) (IE.var 1)))]
def d1 : Dd := mkDd ("is_word", none) "is_word" (dStmt pp "is_word") ["value", "words"] none ["value", "words"] [([], 2, [0, 1])] is1
def is2 : List IS := [IS.ite
   (IE.ort
     (IE.nott (IE.tru (IE.call 0 [] [IE.var 0] [])))
     (IE.cmp (PySem.CmpOp.Lt) (IE.var 0) (IE.int 0)))
   [IS.never]
   []]
def d2 : Dd := mkDd ("check_length", none) "check_length" (dStmt pp "check_length") ["length"] none ["length"] [([], 1, [0])] is2
def is3 : List IS := [IS.ret
   (IE.bi
     (DV.BI.tuple)
     [IE.lc
        false
        (IE.rng1 [IE.var 0])
        (DV.Tgd.nm 1)
        (IE.nop)
        (IE.bi
          (DV.BI.tuple)
          [IE.lc
             false
             (IE.rng1 [IE.var 0])
             (DV.Tgd.nm 2)
             (IE.nop)
             (IE.ife (IE.cmp (PySem.CmpOp.Eq) (IE.var 1) (IE.var 2)) (IE.int 0) (IE.non))
             [2]])
        [1]])]
def d3 : Dd := mkDd ("free_table", none) "free_table" (dStmt pp "free_table") ["size"] none ["size", "x", "y"] [([], 1, [0])] is3
def is4 : List IS := [IS.ret
   (IE.and
     (IE.cmp (PySem.CmpOp.IsNot) (IE.ix (IE.ix (IE.var 0) (IE.var 1)) (IE.var 2)) (IE.non))
     (IE.cmp (PySem.CmpOp.LtE) (IE.ix (IE.ix (IE.var 0) (IE.var 1)) (IE.var 2)) (IE.var 3)))]
def d4 : Dd := mkDd ("follows_systems", none) "follows" (dStmt pp "follows") ["table", "x", "y", "by"] none ["table", "x", "y", "by"] [([], 4, [0, 1, 2, 3])] is4
def is5 : List IS := [IS.ite
   (IE.ort
     (IE.cmp (PySem.CmpOp.Is) (IE.var 2) (IE.non))
     (IE.andt
       (IE.cmp (PySem.CmpOp.IsNot) (IE.var 0) (IE.non))
       (IE.cmp (PySem.CmpOp.LtE) (IE.var 0) (IE.bin (PySem.Operator.Add) (IE.var 1) (IE.var 2)))))
   [IS.ret (IE.var 0)]
   [],
 IS.ret (IE.bin (PySem.Operator.Add) (IE.var 1) (IE.var 2))]
def d5 : Dd := mkDd ("least_bound", none) "least_bound" (dStmt pp "least_bound") ["old", "lead", "last"] none ["old", "lead", "last"] [([], 3, [0, 1, 2])] is5
def is6 : List IS := [IS.ite
   (IE.andt
     (IE.cmp (PySem.CmpOp.IsNot) (IE.ix (IE.ix (IE.var 0) (IE.var 2)) (IE.var 1)) (IE.non))
     (IE.cmp
       (PySem.CmpOp.Lt)
       (IE.bin (PySem.Operator.Add) (IE.ix (IE.ix (IE.var 0) (IE.var 2)) (IE.var 1)) (IE.var 3))
       (IE.int 0)))
   [IS.ret (IE.non)]
   [],
 IS.ite
   (IE.tru (IE.call 4 [] [IE.var 0, IE.var 1, IE.var 2, IE.var 3] []))
   [IS.ret (IE.var 0)]
   [],
 IS.set 4 (IE.lstM []),
 IS.forr
   (IE.itv (IE.var 0))
   (IG.var 5)
   [IS.ite
      (IE.cmp (PySem.CmpOp.Is) (IE.ix (IE.var 5) (IE.var 1)) (IE.non))
      [IS.exp (IE.app (IE.var 4) (IE.var 5))]
      [IS.asg
         (IG.tup [IG.var 6, IG.var 7])
         (IE.tup
           [IE.bin (PySem.Operator.Add) (IE.ix (IE.var 5) (IE.var 1)) (IE.var 3),
            IE.bi (DV.BI.len) [IE.var 0]]),
       IS.exp
         (IE.app
           (IE.var 4)
           (IE.bi
             (DV.BI.tuple)
             [IE.lc
                false
                (IE.rng1 [IE.var 7])
                (DV.Tgd.nm 8)
                (IE.nop)
                (IE.call
                  5
                  []
                  [IE.ix (IE.var 5) (IE.var 8),
                   IE.var 6,
                   IE.ix (IE.ix (IE.var 0) (IE.var 2)) (IE.var 8)]
                  [])
                [8]]))]],
 IS.ret (IE.bi (DV.BI.tuple) [IE.var 4])]
def d6 : Dd := mkDd ("with_fact", none) "with_fact" (dStmt pp "with_fact") ["table", "x", "y", "by"] none ["table", "x", "y", "by", "rows", "old", "lead", "size", "at"] [([], 4, [0, 1, 2, 3])] is6
def is7 : List IS := [IS.forr
   (IE.itv (IE.var 1))
   (IG.tup [IG.var 2, IG.var 3, IG.var 4])
   [IS.ite
      (IE.cmp (PySem.CmpOp.IsNot) (IE.var 0) (IE.non))
      [IS.set 0 (IE.call 6 [] [IE.var 0, IE.var 2, IE.var 3, IE.var 4] [])]
      []],
 IS.ret (IE.var 0)]
def d7 : Dd := mkDd ("with_facts", none) "with_facts" (dStmt pp "with_facts") ["table", "facts"] none ["table", "facts", "x", "y", "by"] [([], 2, [0, 1])] is7
def is8 : List IS := [IS.ite
   (IE.ort
     (IE.nott (IE.tru (IE.bi (DV.BI.isi) [IE.var 0, IE.ty "tuple"])))
     (IE.cmp (PySem.CmpOp.NotEq) (IE.bi (DV.BI.len) [IE.var 0]) (IE.int 3)))
   [IS.ret (IE.bl false)]
   [],
 IS.ite
   (IE.ort
     (IE.nott
       (IE.tru
         (IE.call
           1
           []
           [IE.ix (IE.var 0) (IE.int 0),
            IE.sl (IE.gl "POINTS") (IE.nop) (IE.var 1)]
           [])))
     (IE.nott
       (IE.tru
         (IE.call
           1
           []
           [IE.ix (IE.var 0) (IE.int 1),
            IE.sl (IE.gl "POINTS") (IE.nop) (IE.var 1)]
           []))))
   [IS.ret (IE.bl false)]
   [],
 IS.ret
   (IE.and
     (IE.cmp (PySem.CmpOp.NotEq) (IE.ix (IE.var 0) (IE.int 0)) (IE.ix (IE.var 0) (IE.int 1)))
     (IE.call 0 [] [IE.ix (IE.var 0) (IE.int 2)] []))]
def d8 : Dd := mkDd ("is_fact", none) "is_fact" (dStmt pp "is_fact") ["value", "many"] none ["value", "many"] [([], 2, [0, 1])] is8
def is9 : List IS := [IS.ret
   (IE.lc
     false
     (IE.itv (IE.var 0))
     (DV.Tgd.tp [1, 2, 3])
     (IE.nop)
     (IE.tup
       [IE.ix (IE.gl "NUMBERS") (IE.var 1),
        IE.ix (IE.gl "NUMBERS") (IE.var 2),
        IE.var 3])
     [1, 2, 3])]
def d9 : Dd := mkDd ("numbered", none) "numbered" (dStmt pp "numbered") ["facts"] none ["facts", "x", "y", "by"] [([], 1, [0])] is9
-- 10 mk "Facts" 11
def is11 : List IS := [IS.forr
   (IE.enm [IE.var 1])
   (IG.tup [IG.var 2, IG.var 3])
   [IS.ite
      (IE.nott
        (IE.tru
          (IE.call 8 [] [IE.var 3, IE.bi (DV.BI.len) [IE.gl "POINTS"]] [])))
      [IS.never]
      []],
 IS.attr "facts" (IE.var 1) (IE.var 0),
 IS.attr
   "table"
   (IE.call
     7
     []
     [IE.call 3 [] [IE.bi (DV.BI.len) [IE.gl "POINTS"]] [],
      IE.call 9 [] [IE.var 1] []]
     [])
   (IE.var 0)]
def d11 : Dd := mkDd ("Facts", some "__init__") "Facts.__init__" (mStmt pp "Facts" "__init__") ["self"] (some "facts") ["self", "facts", "index", "fact"] [([], 1, [0])] is11
def is12 : List IS := [IS.exp (IE.call 2 [] [IE.var 1] []),
 IS.forr
   (IE.itv (IE.var 2))
   (IG.var 3)
   [IS.ite (IE.nott (IE.tru (IE.call 0 [] [IE.var 3] []))) [IS.never] []],
 IS.ite (IE.cmp (PySem.CmpOp.Gt) (IE.bi (DV.BI.len) [IE.var 2]) (IE.int 3)) [IS.never] [],
 IS.set
   4
   (IE.dzip
     (IE.gl "POINTS")
     (IE.bin (PySem.Operator.Add) (IE.tup [IE.int 0, IE.var 1]) (IE.var 2))),
 IS.forr
   (IE.itv (IE.gl "POINTS"))
   (IG.var 5)
   [IS.ite
      (IE.andt
        (IE.cmp (PySem.CmpOp.NotIn) (IE.var 5) (IE.var 4))
        (IE.tru
          (IE.bi
            (DV.BI.any)
            [IE.lc
               false
               (IE.itv (IE.attr "facts" (IE.var 0)))
               (DV.Tgd.nm 6)
               (IE.nop)
               (IE.cmp (PySem.CmpOp.In) (IE.var 5) (IE.sl (IE.var 6) (IE.nop) (IE.int 2)))
               [6]])))
      [IS.never]
      []],
 IS.ret
   (IE.bi
     (DV.BI.all)
     [IE.lc
        false
        (IE.itv (IE.attr "facts" (IE.var 0)))
        (DV.Tgd.tp [7, 8, 9])
        (IE.nop)
        (IE.cmp
          (PySem.CmpOp.LtE)
          (IE.ix (IE.var 4) (IE.var 7))
          (IE.bin (PySem.Operator.Add) (IE.ix (IE.var 4) (IE.var 8)) (IE.var 9)))
        [7, 8, 9]])]
def d12 : Dd := mkDd ("Facts", some "holds") "Facts.holds" (mStmt pp "Facts" "holds") ["self", "length"] (some "places") ["self", "length", "places", "place", "worths", "name", "fact", "x", "y", "by"] [([], 2, [0, 1]), (["length"], 1, [0, 1])] is12
def is13 : List IS := [IS.set
   2
   (IE.bin
     (PySem.Operator.Add)
     (IE.attr "facts" (IE.var 0))
     (IE.attr "facts" (IE.var 1))),
 IS.ret (IE.callS 10 (IE.var 2))]
def d13 : Dd := mkDd ("Facts", some "__and__") "Facts.__and__" (mStmt pp "Facts" "__and__") ["self", "other"] none ["self", "other", "both"] [([], 2, [0, 1])] is13
def is14 : List IS := [IS.ite
   (IE.cmp (PySem.CmpOp.Lt) (IE.var 1) (IE.bi (DV.BI.len) [IE.var 0]))
   [IS.ret (IE.bi (DV.BI.int) [IE.ix (IE.var 0) (IE.var 1)])]
   [],
 IS.set
   2
   (IE.bi
     (DV.BI.int)
     [IE.bin
        (PySem.Operator.Add)
        (IE.bin
          (PySem.Operator.Add)
          (IE.bin
            (PySem.Operator.Mult)
            (IE.bin (PySem.Operator.Mult) (IE.int 40507) (IE.var 1))
            (IE.var 1))
          (IE.bin (PySem.Operator.Mult) (IE.int 2521) (IE.var 1)))
        (IE.int 77)]),
 IS.forr
   (IE.itv (IE.sl (IE.var 0) (IE.nop) (IE.int 5)))
   (IG.var 3)
   [IS.set
      2
      (IE.bin
        (PySem.Operator.Mod)
        (IE.bi
          (DV.BI.int)
          [IE.bin
             (PySem.Operator.Add)
             (IE.bin (PySem.Operator.Mult) (IE.var 2) (IE.int 65537))
             (IE.bi (DV.BI.int) [IE.var 3])])
        (IE.int 2147483629))],
 IS.ret (IE.var 2)]
def d14 : Dd := mkDd ("_law_cell", none) "_law_cell" (dStmt pp "_law_cell") ["_law_script", "_law_k"] none ["_law_script", "_law_k", "_law_seed", "_law_cell_here"] [([], 2, [0, 1])] is14
def is15 : List IS := [IS.set
   1
   (IE.ife
     (IE.ort
       (IE.cmp (PySem.CmpOp.Lt) (IE.var 0) (IE.int 0))
       (IE.cmp (PySem.CmpOp.GtE) (IE.var 0) (IE.bin (PySem.Operator.Pow) (IE.int 10) (IE.int 18))))
     (IE.bi (DV.BI.abs) [IE.var 0])
     (IE.int 0)),
 IS.ret
   (IE.lstM
     [IE.bin (PySem.Operator.Mod) (IE.bi (DV.BI.int) [IE.var 0]) (IE.int 2147483629),
      IE.var 1,
      IE.int 0])]
def d15 : Dd := mkDd ("_law_pool", none) "_law_pool" (dStmt pp "_law_pool") ["_law_cell_here"] none ["_law_cell_here", "_law_digits"] [([], 1, [0])] is15
def is16 : List IS := [IS.asg
   (IG.sub (IE.var 0) (IE.int 2))
   (IE.bin (PySem.Operator.Add) (IE.ix (IE.var 0) (IE.int 2)) (IE.int 1)),
 IS.set 2 (IE.bi (DV.BI.int) [IE.ix (IE.var 0) (IE.int 0)]),
 IS.asg
   (IG.sub (IE.var 0) (IE.int 0))
   (IE.bin
     (PySem.Operator.Mod)
     (IE.bi
       (DV.BI.int)
       [IE.bin
          (PySem.Operator.Mult)
          (IE.bin
            (PySem.Operator.Add)
            (IE.var 2)
            (IE.bin (PySem.Operator.Mult) (IE.int 39373) (IE.ix (IE.var 0) (IE.int 2))))
          (IE.bin
            (PySem.Operator.Add)
            (IE.bin (PySem.Operator.Mod) (IE.bi (DV.BI.int) [IE.var 2]) (IE.int 65537))
            (IE.int 4099))])
     (IE.int 2147483629)),
 IS.ite
   (IE.cmp (PySem.CmpOp.Gt) (IE.ix (IE.var 0) (IE.int 1)) (IE.int 0))
   [IS.asg
      (IG.tup [IG.sub (IE.var 0) (IE.int 1), IG.var 3])
      (IE.bi (DV.BI.divmod) [IE.ix (IE.var 0) (IE.int 1), IE.var 1]),
    IS.ret (IE.var 3)]
   [],
 IS.ret
   (IE.bin
     (PySem.Operator.Mod)
     (IE.bi (DV.BI.int) [IE.bin (PySem.Operator.FloorDiv) (IE.ix (IE.var 0) (IE.int 0)) (IE.int 32)])
     (IE.var 1))]
def d16 : Dd := mkDd ("_law_draw", none) "_law_draw" (dStmt pp "_law_draw") ["_law_pool_here", "_law_many"] none ["_law_pool_here", "_law_many", "_law_seed", "_law_digit"] [([], 2, [0, 1])] is16
def is17 : List IS := [IS.set 2 (IE.int 0),
 IS.forr
   (IE.rng1 [IE.int 6])
   (IG.var 3)
   [IS.set
      2
      (IE.bin
        (PySem.Operator.Add)
        (IE.bin (PySem.Operator.Mult) (IE.var 2) (IE.int 1000003))
        (IE.call 16 [] [IE.var 0, IE.int 1000003] []))],
 IS.ret
   (IE.bin
     (PySem.Operator.Mod)
     (IE.bi (DV.BI.int) [IE.var 2])
     (IE.bin (PySem.Operator.Add) (IE.var 1) (IE.int 1)))]
def d17 : Dd := mkDd ("_law_far", none) "_law_far" (dStmt pp "_law_far") ["_law_pool_here", "_law_top"] none ["_law_pool_here", "_law_top", "_law_number", "_law_turn"] [([], 2, [0, 1])] is17
def is18 : List IS := [IS.ret
   (IE.lc
     false
     (IE.rng1
       [IE.bi (DV.BI.max) [IE.int 2, IE.bi (DV.BI.min) [IE.bi (DV.BI.len) [IE.var 0], IE.var 1]]])
     (DV.Tgd.nm 2)
     (IE.nop)
     (IE.call 15 [] [IE.call 14 [] [IE.var 0, IE.var 2] []] [])
     [2])]
def d18 : Dd := mkDd ("_law_pools", none) "_law_pools" (dStmt pp "_law_pools") ["_law_script", "_law_most"] none ["_law_script", "_law_most", "_law_k"] [([], 2, [0, 1])] is18
def is19 : List IS := [IS.set 1 (IE.call 16 [] [IE.var 0, IE.int 5] []),
 IS.ite
   (IE.cmp (PySem.CmpOp.Lt) (IE.var 1) (IE.int 3))
   [IS.ret (IE.bin (PySem.Operator.Sub) (IE.call 16 [] [IE.var 0, IE.int 9] []) (IE.int 4))]
   [],
 IS.set
   2
   (IE.ife
     (IE.cmp (PySem.CmpOp.Eq) (IE.var 1) (IE.int 3))
     (IE.call 16 [] [IE.var 0, IE.bin (PySem.Operator.Pow) (IE.int 10) (IE.int 9)] [])
     (IE.call 17 [] [IE.var 0, IE.bin (PySem.Operator.Pow) (IE.int 10) (IE.int 30)] [])),
 IS.ret
   (IE.ife
     (IE.cmp (PySem.CmpOp.Eq) (IE.call 16 [] [IE.var 0, IE.int 2] []) (IE.int 0))
     (IE.var 2)
     (IE.bin (PySem.Operator.Sub) (IE.int 0) (IE.var 2)))]
def d19 : Dd := mkDd ("_law_integer", none) "_law_integer" (dStmt pp "_law_integer") ["_law_pool_here"] none ["_law_pool_here", "_law_way", "_law_number"] [([], 1, [0])] is19
def is20 : List IS := [IS.ret
   (IE.lst
     [IE.str "front",
      IE.str "length",
      IE.str "first",
      IE.str "second",
      IE.str "third"])]
def d20 : Dd := mkDd ("_law_names", none) "_law_names" (dStmt pp "_law_names") [] none [] [([], 0, [])] is20
def is21 : List IS := [IS.ret
   (IE.bin
     (PySem.Operator.Add)
     (IE.lst [IE.int 0])
     (IE.lc false (IE.rng1 [IE.int 4]) (DV.Tgd.nm 1) (IE.nop) (IE.call 19 [] [IE.var 0] []) [1]))]
def d21 : Dd := mkDd ("_law_hidden", none) "_law_hidden" (dStmt pp "_law_hidden") ["_law_pool_here"] none ["_law_pool_here", "_law_at"] [([], 1, [0])] is21
def is22 : List IS := [IS.set 2 (IE.call 16 [] [IE.var 0, IE.int 5] []),
 IS.set
   3
   (IE.bin
     (PySem.Operator.Mod)
     (IE.bi
       (DV.BI.int)
       [IE.bin
          (PySem.Operator.Add)
          (IE.bin (PySem.Operator.Add) (IE.var 2) (IE.int 1))
          (IE.call 16 [] [IE.var 0, IE.int 4] [])])
     (IE.int 5)),
 IS.par 4 5 (IE.call 16 [] [IE.var 0, IE.int 5] []) (IE.int 0),
 IS.ite (IE.cmp (PySem.CmpOp.Gt) (IE.var 4) (IE.int 1)) [IS.set 5 (IE.int 1)] [],
 IS.ite
   (IE.cmp (PySem.CmpOp.Gt) (IE.var 4) (IE.int 2))
   [IS.set
      5
      (IE.ife
        (IE.cmp (PySem.CmpOp.Eq) (IE.var 4) (IE.int 3))
        (IE.call 16 [] [IE.var 0, IE.int 1000] [])
        (IE.call 17 [] [IE.var 0, IE.bin (PySem.Operator.Pow) (IE.int 10) (IE.int 30)] []))]
   [],
 IS.ret
   (IE.tup
     [IE.ix (IE.call 20 [] [] []) (IE.var 2),
      IE.ix (IE.call 20 [] [] []) (IE.var 3),
      IE.bin
        (PySem.Operator.Add)
        (IE.bin (PySem.Operator.Sub) (IE.ix (IE.var 1) (IE.var 2)) (IE.ix (IE.var 1) (IE.var 3)))
        (IE.var 5)])]
def d22 : Dd := mkDd ("_law_true_fact", none) "_law_true_fact" (dStmt pp "_law_true_fact") ["_law_pool_here", "_law_hidden_here"] none ["_law_pool_here", "_law_hidden_here", "_law_x", "_law_y", "_law_way", "_law_more"] [([], 2, [0, 1])] is22
def is23 : List IS := [IS.asg
   (IG.tup [IG.var 3, IG.var 4, IG.var 5])
   (IE.tup
     [IE.call 16 [] [IE.var 0, IE.int 5] [],
      IE.bin (PySem.Operator.Add) (IE.int 1) (IE.call 16 [] [IE.var 0, IE.int 4] []),
      IE.bin (PySem.Operator.Add) (IE.int 2) (IE.call 16 [] [IE.var 0, IE.int 4] [])]),
 IS.set
   7
   (IE.lc
     false
     (IE.rng1 [IE.var 5])
     (DV.Tgd.nm 6)
     (IE.nop)
     (IE.bin
       (PySem.Operator.Mod)
       (IE.bi
         (DV.BI.int)
         [IE.bin (PySem.Operator.Add) (IE.var 3) (IE.bin (PySem.Operator.Mult) (IE.var 6) (IE.var 4))])
       (IE.int 5))
     [6]),
 IS.set 8 (IE.lstM []),
 IS.forr
   (IE.rng1 [IE.var 5])
   (IG.var 6)
   [IS.par
      9
      10
      (IE.ix (IE.var 7) (IE.var 6))
      (IE.ix
        (IE.var 7)
        (IE.bin
          (PySem.Operator.Mod)
          (IE.bi (DV.BI.int) [IE.bin (PySem.Operator.Add) (IE.var 6) (IE.int 1)])
          (IE.var 5))),
    IS.set
      11
      (IE.ife
        (IE.cmp (PySem.CmpOp.Eq) (IE.var 6) (IE.bin (PySem.Operator.Sub) (IE.var 5) (IE.int 1)))
        (IE.var 2)
        (IE.int 0)),
    IS.exp
      (IE.app
        (IE.var 8)
        (IE.tup
          [IE.ix (IE.call 20 [] [] []) (IE.var 9),
           IE.ix (IE.call 20 [] [] []) (IE.var 10),
           IE.bin
             (PySem.Operator.Sub)
             (IE.bin
               (PySem.Operator.Sub)
               (IE.ix (IE.var 1) (IE.var 9))
               (IE.ix (IE.var 1) (IE.var 10)))
             (IE.var 11)]))],
 IS.retF (IE.var 8)]
def d23 : Dd := mkDd ("_law_circle", none) "_law_circle" (dStmt pp "_law_circle") ["_law_pool_here", "_law_hidden_here", "_law_by"] none ["_law_pool_here", "_law_hidden_here", "_law_by", "_law_start_it", "_law_step", "_law_many", "_law_k", "_law_at", "_law_found", "_law_x", "_law_y", "_law_less"] [([], 3, [0, 1, 2])] is23
def is24 : List IS := [IS.ite
   (IE.cmp (PySem.CmpOp.Eq) (IE.bi (DV.BI.len) [IE.var 0]) (IE.int 0))
   [IS.ret (IE.call 10 [] [] [])]
   [],
 IS.ite
   (IE.cmp (PySem.CmpOp.Eq) (IE.bi (DV.BI.len) [IE.var 0]) (IE.int 1))
   [IS.ret (IE.call 10 [] [IE.ix (IE.var 0) (IE.int 0)] [])]
   [],
 IS.ite
   (IE.cmp (PySem.CmpOp.Eq) (IE.bi (DV.BI.len) [IE.var 0]) (IE.int 2))
   [IS.ret (IE.call 10 [] [IE.ix (IE.var 0) (IE.int 0), IE.ix (IE.var 0) (IE.int 1)] [])]
   [],
 IS.set
   1
   (IE.call
     10
     []
     [IE.ix (IE.var 0) (IE.int 0), IE.ix (IE.var 0) (IE.int 1), IE.ix (IE.var 0) (IE.int 2)]
     []),
 IS.forr
   (IE.itv (IE.sl (IE.var 0) (IE.int 3) (IE.nop)))
   (IG.var 2)
   [IS.set 1 (IE.op (PySem.Operator.BitAnd) (IE.var 1) (IE.call 10 [] [IE.var 2] []))],
 IS.ret (IE.var 1)]
def d24 : Dd := mkDd ("_law_made", none) "_law_made" (dStmt pp "_law_made") ["_law_facts"] none ["_law_facts", "_law_made_here", "_law_fact"] [([], 1, [0])] is24
def is25 : List IS := [IS.set 1 (IE.call 20 [] [] []),
 IS.set
   4
   (IE.lc
     false
     (IE.rng1 [IE.int 5])
     (DV.Tgd.nm 2)
     (IE.nop)
     (IE.lc
       true
       (IE.rng1 [IE.int 5])
       (DV.Tgd.nm 3)
       (IE.nop)
       (IE.ife (IE.cmp (PySem.CmpOp.Eq) (IE.var 2) (IE.var 3)) (IE.int 0) (IE.non))
       [3])
     [2]),
 IS.forr
   (IE.rng1 [IE.int 5])
   (IG.var 5)
   [IS.forr
      (IE.itv (IE.var 0))
      (IG.var 6)
      [IS.par
         2
         3
         (IE.idx (IE.var 1) (IE.ix (IE.var 6) (IE.int 0)))
         (IE.idx (IE.var 1) (IE.ix (IE.var 6) (IE.int 1))),
       IS.forr
         (IE.rng1 [IE.int 5])
         (IG.var 7)
         [IS.par
            8
            9
            (IE.ix (IE.ix (IE.var 4) (IE.var 2)) (IE.var 7))
            (IE.ix (IE.ix (IE.var 4) (IE.var 3)) (IE.var 7)),
          IS.ite
            (IE.andt
              (IE.cmp (PySem.CmpOp.IsNot) (IE.var 9) (IE.non))
              (IE.ort
                (IE.cmp (PySem.CmpOp.Is) (IE.var 8) (IE.non))
                (IE.cmp
                  (PySem.CmpOp.Gt)
                  (IE.var 8)
                  (IE.bin (PySem.Operator.Add) (IE.ix (IE.var 6) (IE.int 2)) (IE.var 9)))))
            [IS.asg
               (IG.sub (IE.ix (IE.var 4) (IE.var 2)) (IE.var 7))
               (IE.bin (PySem.Operator.Add) (IE.ix (IE.var 6) (IE.int 2)) (IE.var 9))]
            []]]],
 IS.ret (IE.var 4)]
def d25 : Dd := mkDd ("_law_table", none) "_law_table" (dStmt pp "_law_table") ["_law_facts"] none ["_law_facts", "_law_names_here", "_law_x", "_law_y", "_law_table_here", "_law_turn", "_law_fact", "_law_z", "_law_old", "_law_more"] [([], 1, [0])] is25
def is26 : List IS := [IS.tryx
   "Impossible"
   5
   [IS.set
      4
      (IE.ife
        (IE.cmp (PySem.CmpOp.Eq) (IE.var 3) (IE.int 0))
        (IE.meth "bound" (IE.var 0) [] [IE.var 1, IE.var 2] [])
        (IE.meth
          "bound"
          (IE.var 0)
          ["other_point", "point"]
          []
          [IE.var 2, IE.var 1]))]
   [IS.set
      6
      (IE.and
        (IE.xisi 5 "MeetError")
        (IE.and
          (IE.xisi 5 "LookupError")
          (IE.not (IE.xisi 5 "BookError")))),
    IS.ret
      (IE.ife
        (IE.tru (IE.var 6))
        (IE.tup [IE.str "impossible"])
        (IE.tup [IE.str "other"]))],
 IS.ret (IE.var 4)]
def d26 : Dd := mkDd ("_law_bound", none) "_law_bound" (dStmt pp "_law_bound") ["_law_facts", "_law_x", "_law_y", "_law_way"] none ["_law_facts", "_law_x", "_law_y", "_law_way", "_law_found", "e", "_law_right_here"] [([], 4, [0, 1, 2, 3])] is26
def is27 : List IS := [IS.set 1 (IE.call 21 [] [IE.var 0] []),
 IS.set
   2
   (IE.lc
     false
     (IE.rng1 [IE.call 16 [] [IE.var 0, IE.int 8] []])
     (DV.Tgd.nm 11)
     (IE.nop)
     (IE.call 22 [] [IE.var 0, IE.var 1] [])
     [11]),
 IS.par3 3 4 5 (IE.call 24 [] [IE.var 2] []) (IE.call 25 [] [IE.var 2] []) (IE.call 20 [] [] []),
 IS.forr
   (IE.rng1 [IE.int 2])
   (IG.var 6)
   [IS.forr
      (IE.rng1 [IE.int 5])
      (IG.var 7)
      [IS.forr
         (IE.rng1 [IE.int 5])
         (IG.var 8)
         [IS.ite
            (IE.cmp
              (PySem.CmpOp.NotEq)
              (IE.bi
                (DV.BI.repr)
                [IE.call
                   26
                   []
                   [IE.var 3,
                    IE.ix (IE.var 5) (IE.var 7),
                    IE.ix (IE.var 5) (IE.var 8),
                    IE.var 6]
                   []])
              (IE.bi (DV.BI.repr) [IE.ix (IE.ix (IE.var 4) (IE.var 7)) (IE.var 8)]))
            [IS.ret (IE.bl false)]
            []]]],
 IS.set
   9
   (IE.call
     23
     []
     [IE.var 0,
      IE.var 1,
      IE.bin (PySem.Operator.Add) (IE.int 1) (IE.call 16 [] [IE.var 0, IE.int 3] [])]
     []),
 IS.set 10 (IE.op (PySem.Operator.BitAnd) (IE.var 3) (IE.call 24 [] [IE.var 9] [])),
 IS.par
   7
   8
   (IE.ix (IE.var 5) (IE.call 16 [] [IE.var 0, IE.int 5] []))
   (IE.ix (IE.var 5) (IE.call 16 [] [IE.var 0, IE.int 5] [])),
 IS.ret
   (IE.and
     (IE.cmp
       (PySem.CmpOp.Eq)
       (IE.call 26 [] [IE.var 10, IE.var 7, IE.var 8, IE.int 0] [])
       (IE.tup [IE.str "impossible"]))
     (IE.cmp
       (PySem.CmpOp.Eq)
       (IE.call 26 [] [IE.var 10, IE.var 7, IE.var 7, IE.int 1] [])
       (IE.tup [IE.str "impossible"])))]
def d27 : Dd := mkDd ("_law_right", none) "_law_right" (dStmt pp "_law_right") ["_law_pool_here"] none ["_law_pool_here", "_law_hidden_here", "_law_facts", "_law_made_here", "_law_table_here", "_law_names_here", "_law_turn", "_law_x", "_law_y", "_law_low", "_law_bad", "_law_k"] [([], 1, [0])] is27
def is28 : List IS := [IS.ret
   (IE.bi
     (DV.BI.all)
     [IE.lc
        false
        (IE.itv (IE.call 18 [] [IE.var 0, IE.int 4] []))
        (DV.Tgd.nm 1)
        (IE.nop)
        (IE.call 27 [] [IE.var 1] [])
        [1]])]
def d28 : Dd := mkDd ("law", none) "law" (dStmt pp "law") ["_law_script"] none ["_law_script", "_law_pool_here"] [([], 1, [0])] is28
def is29 : List IS := [IS.forr
   (IE.itv (IE.tup [IE.var 1, IE.var 2]))
   (IG.var 3)
   [IS.ite
      (IE.nott (IE.tru (IE.call 1 [] [IE.var 3, IE.gl "POINTS"] [])))
      [IS.never]
      []],
 IS.ite
   (IE.cmp (PySem.CmpOp.Is) (IE.attr "table" (IE.var 0)) (IE.non))
   [IS.raise0 "Impossible"]
   [],
 IS.ret
   (IE.ix
     (IE.ix
       (IE.attr "table" (IE.var 0))
       (IE.ix (IE.gl "NUMBERS") (IE.var 1)))
     (IE.ix (IE.gl "NUMBERS") (IE.var 2)))]
def d29 : Dd := mkDd ("Facts", some "bound") "Facts.bound" (mStmt pp "Facts" "bound") ["self", "point", "other_point"] none ["self", "point", "other_point", "name"] [([], 3, [0, 1, 2]), (["other_point", "point"], 1, [0, 2, 1])] is29
-- dl
def dl : List Df := [.fn d0, .fn d1, .fn d2, .fn d3, .fn d4, .fn d5, .fn d6, .fn d7, .fn d8, .fn d9, .mk "Facts" 11, .fn d11, .fn d12, .fn d13, .fn d14, .fn d15, .fn d16, .fn d17, .fn d18, .fn d19, .fn d20, .fn d21, .fn d22, .fn d23, .fn d24, .fn d25, .fn d26, .fn d27, .fn d28, .fn d29]


def fns : List (Str × Nat) := [("is_integer", 0), ("is_word", 1), ("check_length", 2), ("free_table", 3), ("follows_systems", 4), ("least_bound", 5), ("with_fact", 6), ("with_facts", 7), ("is_fact", 8), ("numbered", 9), ("Facts", 10),
  ("_law_cell", 14), ("_law_pool", 15), ("_law_draw", 16), ("_law_far", 17), ("_law_pools", 18), ("_law_integer", 19), ("_law_names", 20), ("_law_hidden", 21), ("_law_true_fact", 22), ("_law_circle", 23), ("_law_made", 24), ("_law_table", 25), ("_law_bound", 26), ("_law_right", 27), ("law", 28)]
def points : DV.D := .tup [.str "front", .str "length", .str "first", .str "second", .str "third"]
def lw : Lw where
  dl := dl
  fns := fns
  meths := [("holds", [("Facts", 12)]), ("bound", [("Facts", 29)])]
  ops := [(.BitAnd, [("Facts", 13)])]
  cls := ["Facts"]
  flds := ["facts", "table"]
  gl := [("POINTS", points), ("NUMBERS", .glo "NUMBERS")]
  kit := []
  kd := [("NUMBERS", [("front", .int 0), ("length", .int 1), ("first", .int 2), ("second", .int 3), ("third", .int 4)])]
  mus := [(51, 11), (140, 11), (178, 17), (183, 11), (197, 23)]
  xk := [(("Impossible", "MeetError"), true), (("Impossible", "LookupError"), true), (("Impossible", "BookError"), false)]
  xm := [(("Impossible", "Impossible"), true)]
  xc := ["Impossible"]

theorem ok0 : DdOk lw.tb d0 := ⟨by kernel_rfl, by kernel_rfl, by kernel_rfl, by intro kV doc pm cdv ct an; repeat' (first | exact True.intro | apply And.intro | intro _ | rfl | (rename_i rest; cases rest <;> rfl))⟩
theorem ok1 : DdOk lw.tb d1 := ⟨by kernel_rfl, by kernel_rfl, by kernel_rfl, by intro kV doc pm cdv ct an; repeat' (first | exact True.intro | apply And.intro | intro _ | rfl | (rename_i rest; cases rest <;> rfl))⟩
theorem ok2 : DdOk lw.tb d2 := ⟨by kernel_rfl, by kernel_rfl, by kernel_rfl, by intro kV doc pm cdv ct an; repeat' (first | exact True.intro | apply And.intro | intro _ | rfl | (rename_i rest; cases rest <;> rfl))⟩
theorem ok3 : DdOk lw.tb d3 := ⟨by kernel_rfl, by kernel_rfl, by kernel_rfl, by intro kV doc pm cdv ct an; repeat' (first | exact True.intro | apply And.intro | intro _ | rfl | (rename_i rest; cases rest <;> rfl))⟩
theorem ok4 : DdOk lw.tb d4 := ⟨by kernel_rfl, by kernel_rfl, by kernel_rfl, by intro kV doc pm cdv ct an; repeat' (first | exact True.intro | apply And.intro | intro _ | rfl | (rename_i rest; cases rest <;> rfl))⟩
theorem ok5 : DdOk lw.tb d5 := ⟨by kernel_rfl, by kernel_rfl, by kernel_rfl, by intro kV doc pm cdv ct an; repeat' (first | exact True.intro | apply And.intro | intro _ | rfl | (rename_i rest; cases rest <;> rfl))⟩
theorem ok6 : DdOk lw.tb d6 := ⟨by kernel_rfl, by kernel_rfl, by kernel_rfl, by intro kV doc pm cdv ct an; repeat' (first | exact True.intro | apply And.intro | intro _ | rfl | (rename_i rest; cases rest <;> rfl))⟩
theorem ok7 : DdOk lw.tb d7 := ⟨by kernel_rfl, by kernel_rfl, by kernel_rfl, by intro kV doc pm cdv ct an; repeat' (first | exact True.intro | apply And.intro | intro _ | rfl | (rename_i rest; cases rest <;> rfl))⟩
theorem ok8 : DdOk lw.tb d8 := ⟨by kernel_rfl, by kernel_rfl, by kernel_rfl, by intro kV doc pm cdv ct an; repeat' (first | exact True.intro | apply And.intro | intro _ | rfl | (rename_i rest; cases rest <;> rfl))⟩
theorem ok9 : DdOk lw.tb d9 := ⟨by kernel_rfl, by kernel_rfl, by kernel_rfl, by intro kV doc pm cdv ct an; repeat' (first | exact True.intro | apply And.intro | intro _ | rfl | (rename_i rest; cases rest <;> rfl))⟩
theorem ok11 : DdOk lw.tb d11 := ⟨by kernel_rfl, by kernel_rfl, by kernel_rfl, by intro kV doc pm cdv ct an; repeat' (first | exact True.intro | apply And.intro | intro _ | rfl | (rename_i rest; cases rest <;> rfl))⟩
theorem ok12 : DdOk lw.tb d12 := ⟨by kernel_rfl, by kernel_rfl, by kernel_rfl, by intro kV doc pm cdv ct an; repeat' (first | exact True.intro | apply And.intro | intro _ | rfl | (rename_i rest; cases rest <;> rfl))⟩
theorem ok13 : DdOk lw.tb d13 := ⟨by kernel_rfl, by kernel_rfl, by kernel_rfl, by intro kV doc pm cdv ct an; repeat' (first | exact True.intro | apply And.intro | intro _ | rfl | (rename_i rest; cases rest <;> rfl))⟩
theorem ok14 : DdOk lw.tb d14 := ⟨by kernel_rfl, by kernel_rfl, by kernel_rfl, by intro kV doc pm cdv ct an; repeat' (first | exact True.intro | apply And.intro | intro _ | rfl | (rename_i rest; cases rest <;> rfl))⟩
theorem ok15 : DdOk lw.tb d15 := ⟨by kernel_rfl, by kernel_rfl, by kernel_rfl, by intro kV doc pm cdv ct an; repeat' (first | exact True.intro | apply And.intro | intro _ | rfl | (rename_i rest; cases rest <;> rfl))⟩
theorem ok16 : DdOk lw.tb d16 := ⟨by kernel_rfl, by kernel_rfl, by kernel_rfl, by intro kV doc pm cdv ct an; repeat' (first | exact True.intro | apply And.intro | intro _ | rfl | (rename_i rest; cases rest <;> rfl))⟩
theorem ok17 : DdOk lw.tb d17 := ⟨by kernel_rfl, by kernel_rfl, by kernel_rfl, by intro kV doc pm cdv ct an; repeat' (first | exact True.intro | apply And.intro | intro _ | rfl | (rename_i rest; cases rest <;> rfl))⟩
theorem ok18 : DdOk lw.tb d18 := ⟨by kernel_rfl, by kernel_rfl, by kernel_rfl, by intro kV doc pm cdv ct an; repeat' (first | exact True.intro | apply And.intro | intro _ | rfl | (rename_i rest; cases rest <;> rfl))⟩
theorem ok19 : DdOk lw.tb d19 := ⟨by kernel_rfl, by kernel_rfl, by kernel_rfl, by intro kV doc pm cdv ct an; repeat' (first | exact True.intro | apply And.intro | intro _ | rfl | (rename_i rest; cases rest <;> rfl))⟩
theorem ok20 : DdOk lw.tb d20 := ⟨by kernel_rfl, by kernel_rfl, by kernel_rfl, by intro kV doc pm cdv ct an; repeat' (first | exact True.intro | apply And.intro | intro _ | rfl | (rename_i rest; cases rest <;> rfl))⟩
theorem ok21 : DdOk lw.tb d21 := ⟨by kernel_rfl, by kernel_rfl, by kernel_rfl, by intro kV doc pm cdv ct an; repeat' (first | exact True.intro | apply And.intro | intro _ | rfl | (rename_i rest; cases rest <;> rfl))⟩
theorem ok22 : DdOk lw.tb d22 := ⟨by kernel_rfl, by kernel_rfl, by kernel_rfl, by intro kV doc pm cdv ct an; repeat' (first | exact True.intro | apply And.intro | intro _ | rfl | (rename_i rest; cases rest <;> rfl))⟩
theorem ok23 : DdOk lw.tb d23 := ⟨by kernel_rfl, by kernel_rfl, by kernel_rfl, by intro kV doc pm cdv ct an; repeat' (first | exact True.intro | apply And.intro | intro _ | rfl | (rename_i rest; cases rest <;> rfl))⟩
theorem ok24 : DdOk lw.tb d24 := ⟨by kernel_rfl, by kernel_rfl, by kernel_rfl, by intro kV doc pm cdv ct an; repeat' (first | exact True.intro | apply And.intro | intro _ | rfl | (rename_i rest; cases rest <;> rfl))⟩
theorem ok25 : DdOk lw.tb d25 := ⟨by kernel_rfl, by kernel_rfl, by kernel_rfl, by intro kV doc pm cdv ct an; repeat' (first | exact True.intro | apply And.intro | intro _ | rfl | (rename_i rest; cases rest <;> rfl))⟩
theorem ok26 : DdOk lw.tb d26 := ⟨by kernel_rfl, by kernel_rfl, by kernel_rfl, by intro kV doc pm cdv ct an; repeat' (first | exact True.intro | apply And.intro | intro _ | rfl | (rename_i rest; cases rest <;> rfl))⟩
theorem ok27 : DdOk lw.tb d27 := ⟨by kernel_rfl, by kernel_rfl, by kernel_rfl, by intro kV doc pm cdv ct an; repeat' (first | exact True.intro | apply And.intro | intro _ | rfl | (rename_i rest; cases rest <;> rfl))⟩
theorem ok28 : DdOk lw.tb d28 := ⟨by kernel_rfl, by kernel_rfl, by kernel_rfl, by intro kV doc pm cdv ct an; repeat' (first | exact True.intro | apply And.intro | intro _ | rfl | (rename_i rest; cases rest <;> rfl))⟩
theorem ok29 : DdOk lw.tb d29 := ⟨by kernel_rfl, by kernel_rfl, by kernel_rfl, by intro kV doc pm cdv ct an; repeat' (first | exact True.intro | apply And.intro | intro _ | rfl | (rename_i rest; cases rest <;> rfl))⟩
theorem ok_all : ∀ d, Df.fn d ∈ lw.dl → DdOk lw.tb d := by
  intro d h
  have h : Df.fn d ∈ dl := h
  unfold dl at h
  simp only [List.mem_cons, Df.fn.injEq, List.mem_nil_iff, or_false, reduceCtorEq, false_or] at h
  rcases h with h | h | h | h | h | h | h | h | h | h | h | h | h | h | h | h | h | h | h | h | h | h | h | h | h | h | h | h | h
  · exact h ▸ ok0
  · exact h ▸ ok1
  · exact h ▸ ok2
  · exact h ▸ ok3
  · exact h ▸ ok4
  · exact h ▸ ok5
  · exact h ▸ ok6
  · exact h ▸ ok7
  · exact h ▸ ok8
  · exact h ▸ ok9
  · exact h ▸ ok11
  · exact h ▸ ok12
  · exact h ▸ ok13
  · exact h ▸ ok14
  · exact h ▸ ok15
  · exact h ▸ ok16
  · exact h ▸ ok17
  · exact h ▸ ok18
  · exact h ▸ ok19
  · exact h ▸ ok20
  · exact h ▸ ok21
  · exact h ▸ ok22
  · exact h ▸ ok23
  · exact h ▸ ok24
  · exact h ▸ ok25
  · exact h ▸ ok26
  · exact h ▸ ok27
  · exact h ▸ ok28
  · exact h ▸ ok29
end K22

namespace K22
open PySem PySem.Spec PyProof.Rows L2 DV
noncomputable abbrev S (k : Nat) : Gam := sem lw.tb lw.dl k
theorem e16 {k : Nat} {a b : DV.D} {st : Store} {Q : DV.D → Store → Prop} : (S (k + 1) 16 [] [a, b] st).to Q = (denB lw.tb (S k) is16 [.v a, .v b, .un, .un] st).to (endPo Q) := enter (d := d16) (xs := [a, b]) rfl rfl
theorem draw {k l : Nat} {n m : Int} {st : Store} (h : Pool n st l) (hn : n ≤ 2 ^ 60) (hm : 0 < m) (hm2 : m < 1073741824) : (S (k + 1) 16 [] [.ref l, .int m] st).to fun d st' => (∃ v : Int, d = .int v ∧ 0 ≤ v ∧ v < m) ∧ Pool (n + 1) st' l ∧ FrS l st st' := by
  obtain ⟨s, g, c, h, h1, h2, h3, h4, h5⟩ := h
  have hl : l < st.length := (List.getElem?_eq_some_iff.mp h).1
  rw [e16]
  unfold is16
  try simp only [w_var, w_int, w_bl, w_non, w_str, w_gl, w_ty, w_bin, w_un, w_cmp, w_chain, w_and, w_or, w_not, w_ife, ev_nil, ev_cons, w_tup, w_lst, w_lstM, w_ix, part_nop, w_sl, w_bi, w_call, w_callS, w_meth, w_op, w_attr, w_app, w_idx, w_dzip, w_lc, w_lcM, w_tru, w_nott, w_andt, w_ort, i_itv, i_rng1, i_rng2, i_enm, b_nil, b_cons, s_exp, s_doc, s_pass, s_brk, s_cont, s_never, s_set, s_asg, g_var, g_sub, g_tup, gs_nil, gs_cons, s_par, s_ret, s_retF, s_retN, s_ite, s_for, for_nil, s_attr, w_prp, w_dun, w_fmt, w_fst, js_nil, js_cons, w_xisi, s_raise0, s_par3, p_add, p_addS, p_addT, p_addL, p_addB, p_sub, p_mul, p_mulL, p_fdiv, p_mod, p_pow, p_neg, p_eqI, p_neI, p_eqS, p_neS, p_eqB, p_lt, p_le, p_gt, p_ge, p_isN, p_isNN, p_isB, p_isNB, p_inT, p_ninT, p_ninK, p_ixL, p_ixT, p_ixK, p_ixG, p_ixR, p_put, p_slL, p_slT, p_lenL, p_lenT, p_lenS, p_intI, p_abs, p_max, p_min, p_divmod, p_tupT, p_tupL, p_tupR, p_all, p_any, p_repr, p_isi, p_app, p_idx, p_itL, p_itT, p_rng1, p_rng2, p_enmT, p_enmL, p_fmtS, p_fmtI, p_dlenI, p_dreprI, p_dboolI, p_dlenL, p_dlenT, p_dlenS, p_dreprL, p_dreprT, p_dreprS, p_dreprN, p_dreprB, p_dreprO, p_dboolN, p_dboolB, p_dboolL, p_strI, p_strS, oto_some, slTo_v, tst_bl, asInt_int, asBl_bl, asLst_l, asRef_r, asL_l, asStr_s, asExn_e, List.set_cons_zero, List.set_cons_succ, List.getElem?_cons_zero, List.getElem?_cons_succ, List.length_cons, List.length_nil, List.nil_append, List.cons_append, List.append_nil, h, hl, List.getElem?_set_self, List.length_set, List.set_set, p_dzip, p_putA, asIns_i, tn_non, tn_bl, tn_int, tn_str, tn_tup, tn_lst, tn_dK, tn_ins, asTn_ty, asTn_glo, tru_bl, tru_non, tru_int, tru_lst, tru_tup, truP_bl, truP_non, truP_int, truP_lst, truP_tup, isNon_non, isNon_int, isNon_tup, isNon_lst, isNon_str, isNon_ins, seqD_tup, seqD_lst, insOf_ins, atI_0, atI_1, atI_2, atI_3, atI_4, ixN_0, ixN_1, ixN_2, ixN_3, ixN_4]
  have b1 : 0 ≤ s % 65537 := Int.emod_nonneg _ (by decide)
  have b2 : s % 65537 < 65537 := Int.emod_lt_of_pos _ (by decide)
  have b3 : 0 ≤ (s + 39373 * (c + 1)) * (s % 65537 + 4099) % 2147483629 := Int.emod_nonneg _ (by decide)
  have b4 : (s + 39373 * (c + 1)) * (s % 65537 + 4099) % 2147483629 < 2147483629 := Int.emod_lt_of_pos _ (by decide)
  refine ⟨mul_ok (by decide) (by decide) (by omega) (by omega), by decide, mul_ok (by omega) (by omega) (by omega) (by omega), by decide, fun q => ⟨⟨hm, hm2⟩, True.intro, ?_⟩, fun q => ⟨by decide, hm, ?_⟩⟩
  · refine ⟨⟨_, rfl, Int.emod_nonneg _ (by omega), Int.emod_lt_of_pos _ hm⟩, ⟨_, _, _, List.getElem?_set_self hl, b3, b4, Int.ediv_nonneg h3 (by omega), by omega, by omega⟩, FrS.set⟩
  · refine ⟨⟨_, rfl, Int.emod_nonneg _ (by omega), Int.emod_lt_of_pos _ hm⟩, ⟨_, _, _, List.getElem?_set_self hl, b3, b4, h3, by omega, by omega⟩, FrS.set⟩
theorem e17 {k : Nat} {a b : DV.D} {st : Store} {Q : DV.D → Store → Prop} : (S (k + 1) 17 [] [a, b] st).to Q = (denB lw.tb (S k) is17 [.v a, .v b, .un, .un] st).to (endPo Q) := enter (d := d17) (xs := [a, b]) rfl rfl
theorem far {k l : Nat} {n m : Int} {st : Store} (h : Pool n st l) (hn : n ≤ 2 ^ 59) (hm : 0 ≤ m) : (S (k + 2) 17 [] [.ref l, .int m] st).to fun d st' => (∃ v : Int, d = .int v ∧ 0 ≤ v ∧ v ≤ m) ∧ Pool (n + 6) st' l ∧ FrS l st st' := by
  rw [e17]
  unfold is17
  try simp only [w_var, w_int, w_bl, w_non, w_str, w_gl, w_ty, w_bin, w_un, w_cmp, w_chain, w_and, w_or, w_not, w_ife, ev_nil, ev_cons, w_tup, w_lst, w_lstM, w_ix, part_nop, w_sl, w_bi, w_call, w_callS, w_meth, w_op, w_attr, w_app, w_idx, w_dzip, w_lc, w_lcM, w_tru, w_nott, w_andt, w_ort, i_itv, i_rng1, i_rng2, i_enm, b_nil, b_cons, s_exp, s_doc, s_pass, s_brk, s_cont, s_never, s_set, s_asg, g_var, g_sub, g_tup, gs_nil, gs_cons, s_par, s_ret, s_retF, s_retN, s_ite, s_for, for_nil, s_attr, w_prp, w_dun, w_fmt, w_fst, js_nil, js_cons, w_xisi, s_raise0, s_par3, p_add, p_addS, p_addT, p_addL, p_addB, p_sub, p_mul, p_mulL, p_fdiv, p_mod, p_pow, p_neg, p_eqI, p_neI, p_eqS, p_neS, p_eqB, p_lt, p_le, p_gt, p_ge, p_isN, p_isNN, p_isB, p_isNB, p_inT, p_ninT, p_ninK, p_ixL, p_ixT, p_ixK, p_ixG, p_ixR, p_put, p_slL, p_slT, p_lenL, p_lenT, p_lenS, p_intI, p_abs, p_max, p_min, p_divmod, p_tupT, p_tupL, p_tupR, p_all, p_any, p_repr, p_isi, p_app, p_idx, p_itL, p_itT, p_rng1, p_rng2, p_enmT, p_enmL, p_fmtS, p_fmtI, p_dlenI, p_dreprI, p_dboolI, p_dlenL, p_dlenT, p_dlenS, p_dreprL, p_dreprT, p_dreprS, p_dreprN, p_dreprB, p_dreprO, p_dboolN, p_dboolB, p_dboolL, p_strI, p_strS, oto_some, slTo_v, tst_bl, asInt_int, asBl_bl, asLst_l, asRef_r, asL_l, asStr_s, asExn_e, List.set_cons_zero, List.set_cons_succ, List.getElem?_cons_zero, List.getElem?_cons_succ, List.length_cons, List.length_nil, List.nil_append, List.cons_append, List.append_nil, List.getElem?_set_self, List.length_set, List.set_set, p_dzip, p_putA, asIns_i, tn_non, tn_bl, tn_int, tn_str, tn_tup, tn_lst, tn_dK, tn_ins, asTn_ty, asTn_glo, tru_bl, tru_non, tru_int, tru_lst, tru_tup, truP_bl, truP_non, truP_int, truP_lst, truP_tup, isNon_non, isNon_int, isNon_tup, isNon_lst, isNon_str, isNon_ins, seqD_tup, seqD_lst, insOf_ins, atI_0, atI_1, atI_2, atI_3, atI_4, ixN_0, ixN_1, ixN_2, ixN_3, ixN_4]
  refine ⟨by decide, ?_⟩
  rw [show rng 0 (Int.toNat 6) = [.int 0, .int 1, .int 2, .int 3, .int 4, .int 5] from rfl]
  try simp only [w_var, w_int, w_bl, w_non, w_str, w_gl, w_ty, w_bin, w_un, w_cmp, w_chain, w_and, w_or, w_not, w_ife, ev_nil, ev_cons, w_tup, w_lst, w_lstM, w_ix, part_nop, w_sl, w_bi, w_call, w_callS, w_meth, w_op, w_attr, w_app, w_idx, w_dzip, w_lc, w_lcM, w_tru, w_nott, w_andt, w_ort, i_itv, i_rng1, i_rng2, i_enm, b_nil, b_cons, s_exp, s_doc, s_pass, s_brk, s_cont, s_never, s_set, s_asg, g_var, g_sub, g_tup, gs_nil, gs_cons, s_par, s_ret, s_retF, s_retN, s_ite, s_for, for_nil, s_attr, w_prp, w_dun, w_fmt, w_fst, js_nil, js_cons, w_xisi, s_raise0, s_par3, p_add, p_addS, p_addT, p_addL, p_addB, p_sub, p_mul, p_mulL, p_fdiv, p_mod, p_pow, p_neg, p_eqI, p_neI, p_eqS, p_neS, p_eqB, p_lt, p_le, p_gt, p_ge, p_isN, p_isNN, p_isB, p_isNB, p_inT, p_ninT, p_ninK, p_ixL, p_ixT, p_ixK, p_ixG, p_ixR, p_put, p_slL, p_slT, p_lenL, p_lenT, p_lenS, p_intI, p_abs, p_max, p_min, p_divmod, p_tupT, p_tupL, p_tupR, p_all, p_any, p_repr, p_isi, p_app, p_idx, p_itL, p_itT, p_rng1, p_rng2, p_enmT, p_enmL, p_fmtS, p_fmtI, p_dlenI, p_dreprI, p_dboolI, p_dlenL, p_dlenT, p_dlenS, p_dreprL, p_dreprT, p_dreprS, p_dreprN, p_dreprB, p_dreprO, p_dboolN, p_dboolB, p_dboolL, p_strI, p_strS, oto_some, slTo_v, tst_bl, asInt_int, asBl_bl, asLst_l, asRef_r, asL_l, asStr_s, asExn_e, List.set_cons_zero, List.set_cons_succ, List.getElem?_cons_zero, List.getElem?_cons_succ, List.length_cons, List.length_nil, List.nil_append, List.cons_append, List.append_nil, for_cons, List.getElem?_set_self, List.length_set, List.set_set, p_dzip, p_putA, asIns_i, tn_non, tn_bl, tn_int, tn_str, tn_tup, tn_lst, tn_dK, tn_ins, asTn_ty, asTn_glo, tru_bl, tru_non, tru_int, tru_lst, tru_tup, truP_bl, truP_non, truP_int, truP_lst, truP_tup, isNon_non, isNon_int, isNon_tup, isNon_lst, isNon_str, isNon_ins, seqD_tup, seqD_lst, insOf_ins, atI_0, atI_1, atI_2, atI_3, atI_4, ixN_0, ixN_1, ixN_2, ixN_3, ixN_4]
  refine ⟨mul_ok (by decide) (by decide) (by decide) (by decide), True.intro, R.to_mono (draw h (by omega) (by decide) (by decide)) ?_⟩
  rintro _ st1 ⟨⟨v1, rfl, a1, b1⟩, h1, f1⟩
  try simp only [w_var, w_int, w_bl, w_non, w_str, w_gl, w_ty, w_bin, w_un, w_cmp, w_chain, w_and, w_or, w_not, w_ife, ev_nil, ev_cons, w_tup, w_lst, w_lstM, w_ix, part_nop, w_sl, w_bi, w_call, w_callS, w_meth, w_op, w_attr, w_app, w_idx, w_dzip, w_lc, w_lcM, w_tru, w_nott, w_andt, w_ort, i_itv, i_rng1, i_rng2, i_enm, b_nil, b_cons, s_exp, s_doc, s_pass, s_brk, s_cont, s_never, s_set, s_asg, g_var, g_sub, g_tup, gs_nil, gs_cons, s_par, s_ret, s_retF, s_retN, s_ite, s_for, for_nil, s_attr, w_prp, w_dun, w_fmt, w_fst, js_nil, js_cons, w_xisi, s_raise0, s_par3, p_add, p_addS, p_addT, p_addL, p_addB, p_sub, p_mul, p_mulL, p_fdiv, p_mod, p_pow, p_neg, p_eqI, p_neI, p_eqS, p_neS, p_eqB, p_lt, p_le, p_gt, p_ge, p_isN, p_isNN, p_isB, p_isNB, p_inT, p_ninT, p_ninK, p_ixL, p_ixT, p_ixK, p_ixG, p_ixR, p_put, p_slL, p_slT, p_lenL, p_lenT, p_lenS, p_intI, p_abs, p_max, p_min, p_divmod, p_tupT, p_tupL, p_tupR, p_all, p_any, p_repr, p_isi, p_app, p_idx, p_itL, p_itT, p_rng1, p_rng2, p_enmT, p_enmL, p_fmtS, p_fmtI, p_dlenI, p_dreprI, p_dboolI, p_dlenL, p_dlenT, p_dlenS, p_dreprL, p_dreprT, p_dreprS, p_dreprN, p_dreprB, p_dreprO, p_dboolN, p_dboolB, p_dboolL, p_strI, p_strS, oto_some, slTo_v, tst_bl, asInt_int, asBl_bl, asLst_l, asRef_r, asL_l, asStr_s, asExn_e, List.set_cons_zero, List.set_cons_succ, List.getElem?_cons_zero, List.getElem?_cons_succ, List.length_cons, List.length_nil, List.nil_append, List.cons_append, List.append_nil, for_cons, List.getElem?_set_self, List.length_set, List.set_set, p_dzip, p_putA, asIns_i, tn_non, tn_bl, tn_int, tn_str, tn_tup, tn_lst, tn_dK, tn_ins, asTn_ty, asTn_glo, tru_bl, tru_non, tru_int, tru_lst, tru_tup, truP_bl, truP_non, truP_int, truP_lst, truP_tup, isNon_non, isNon_int, isNon_tup, isNon_lst, isNon_str, isNon_ins, seqD_tup, seqD_lst, insOf_ins, atI_0, atI_1, atI_2, atI_3, atI_4, ixN_0, ixN_1, ixN_2, ixN_3, ixN_4]
  refine ⟨mul_ok (by omega) (by omega) (by decide) (by decide), True.intro, R.to_mono (draw h1 (by omega) (by decide) (by decide)) ?_⟩
  rintro _ st2 ⟨⟨v2, rfl, a2, b2⟩, h2, f2⟩
  try simp only [w_var, w_int, w_bl, w_non, w_str, w_gl, w_ty, w_bin, w_un, w_cmp, w_chain, w_and, w_or, w_not, w_ife, ev_nil, ev_cons, w_tup, w_lst, w_lstM, w_ix, part_nop, w_sl, w_bi, w_call, w_callS, w_meth, w_op, w_attr, w_app, w_idx, w_dzip, w_lc, w_lcM, w_tru, w_nott, w_andt, w_ort, i_itv, i_rng1, i_rng2, i_enm, b_nil, b_cons, s_exp, s_doc, s_pass, s_brk, s_cont, s_never, s_set, s_asg, g_var, g_sub, g_tup, gs_nil, gs_cons, s_par, s_ret, s_retF, s_retN, s_ite, s_for, for_nil, s_attr, w_prp, w_dun, w_fmt, w_fst, js_nil, js_cons, w_xisi, s_raise0, s_par3, p_add, p_addS, p_addT, p_addL, p_addB, p_sub, p_mul, p_mulL, p_fdiv, p_mod, p_pow, p_neg, p_eqI, p_neI, p_eqS, p_neS, p_eqB, p_lt, p_le, p_gt, p_ge, p_isN, p_isNN, p_isB, p_isNB, p_inT, p_ninT, p_ninK, p_ixL, p_ixT, p_ixK, p_ixG, p_ixR, p_put, p_slL, p_slT, p_lenL, p_lenT, p_lenS, p_intI, p_abs, p_max, p_min, p_divmod, p_tupT, p_tupL, p_tupR, p_all, p_any, p_repr, p_isi, p_app, p_idx, p_itL, p_itT, p_rng1, p_rng2, p_enmT, p_enmL, p_fmtS, p_fmtI, p_dlenI, p_dreprI, p_dboolI, p_dlenL, p_dlenT, p_dlenS, p_dreprL, p_dreprT, p_dreprS, p_dreprN, p_dreprB, p_dreprO, p_dboolN, p_dboolB, p_dboolL, p_strI, p_strS, oto_some, slTo_v, tst_bl, asInt_int, asBl_bl, asLst_l, asRef_r, asL_l, asStr_s, asExn_e, List.set_cons_zero, List.set_cons_succ, List.getElem?_cons_zero, List.getElem?_cons_succ, List.length_cons, List.length_nil, List.nil_append, List.cons_append, List.append_nil, for_cons, List.getElem?_set_self, List.length_set, List.set_set, p_dzip, p_putA, asIns_i, tn_non, tn_bl, tn_int, tn_str, tn_tup, tn_lst, tn_dK, tn_ins, asTn_ty, asTn_glo, tru_bl, tru_non, tru_int, tru_lst, tru_tup, truP_bl, truP_non, truP_int, truP_lst, truP_tup, isNon_non, isNon_int, isNon_tup, isNon_lst, isNon_str, isNon_ins, seqD_tup, seqD_lst, insOf_ins, atI_0, atI_1, atI_2, atI_3, atI_4, ixN_0, ixN_1, ixN_2, ixN_3, ixN_4]
  refine ⟨mul_ok (by omega) (by omega) (by decide) (by decide), True.intro, R.to_mono (draw h2 (by omega) (by decide) (by decide)) ?_⟩
  rintro _ st3 ⟨⟨v3, rfl, a3, b3⟩, h3, f3⟩
  try simp only [w_var, w_int, w_bl, w_non, w_str, w_gl, w_ty, w_bin, w_un, w_cmp, w_chain, w_and, w_or, w_not, w_ife, ev_nil, ev_cons, w_tup, w_lst, w_lstM, w_ix, part_nop, w_sl, w_bi, w_call, w_callS, w_meth, w_op, w_attr, w_app, w_idx, w_dzip, w_lc, w_lcM, w_tru, w_nott, w_andt, w_ort, i_itv, i_rng1, i_rng2, i_enm, b_nil, b_cons, s_exp, s_doc, s_pass, s_brk, s_cont, s_never, s_set, s_asg, g_var, g_sub, g_tup, gs_nil, gs_cons, s_par, s_ret, s_retF, s_retN, s_ite, s_for, for_nil, s_attr, w_prp, w_dun, w_fmt, w_fst, js_nil, js_cons, w_xisi, s_raise0, s_par3, p_add, p_addS, p_addT, p_addL, p_addB, p_sub, p_mul, p_mulL, p_fdiv, p_mod, p_pow, p_neg, p_eqI, p_neI, p_eqS, p_neS, p_eqB, p_lt, p_le, p_gt, p_ge, p_isN, p_isNN, p_isB, p_isNB, p_inT, p_ninT, p_ninK, p_ixL, p_ixT, p_ixK, p_ixG, p_ixR, p_put, p_slL, p_slT, p_lenL, p_lenT, p_lenS, p_intI, p_abs, p_max, p_min, p_divmod, p_tupT, p_tupL, p_tupR, p_all, p_any, p_repr, p_isi, p_app, p_idx, p_itL, p_itT, p_rng1, p_rng2, p_enmT, p_enmL, p_fmtS, p_fmtI, p_dlenI, p_dreprI, p_dboolI, p_dlenL, p_dlenT, p_dlenS, p_dreprL, p_dreprT, p_dreprS, p_dreprN, p_dreprB, p_dreprO, p_dboolN, p_dboolB, p_dboolL, p_strI, p_strS, oto_some, slTo_v, tst_bl, asInt_int, asBl_bl, asLst_l, asRef_r, asL_l, asStr_s, asExn_e, List.set_cons_zero, List.set_cons_succ, List.getElem?_cons_zero, List.getElem?_cons_succ, List.length_cons, List.length_nil, List.nil_append, List.cons_append, List.append_nil, for_cons, List.getElem?_set_self, List.length_set, List.set_set, p_dzip, p_putA, asIns_i, tn_non, tn_bl, tn_int, tn_str, tn_tup, tn_lst, tn_dK, tn_ins, asTn_ty, asTn_glo, tru_bl, tru_non, tru_int, tru_lst, tru_tup, truP_bl, truP_non, truP_int, truP_lst, truP_tup, isNon_non, isNon_int, isNon_tup, isNon_lst, isNon_str, isNon_ins, seqD_tup, seqD_lst, insOf_ins, atI_0, atI_1, atI_2, atI_3, atI_4, ixN_0, ixN_1, ixN_2, ixN_3, ixN_4]
  refine ⟨mul_ok (by omega) (by omega) (by decide) (by decide), True.intro, R.to_mono (draw h3 (by omega) (by decide) (by decide)) ?_⟩
  rintro _ st4 ⟨⟨v4, rfl, a4, b4⟩, h4, f4⟩
  try simp only [w_var, w_int, w_bl, w_non, w_str, w_gl, w_ty, w_bin, w_un, w_cmp, w_chain, w_and, w_or, w_not, w_ife, ev_nil, ev_cons, w_tup, w_lst, w_lstM, w_ix, part_nop, w_sl, w_bi, w_call, w_callS, w_meth, w_op, w_attr, w_app, w_idx, w_dzip, w_lc, w_lcM, w_tru, w_nott, w_andt, w_ort, i_itv, i_rng1, i_rng2, i_enm, b_nil, b_cons, s_exp, s_doc, s_pass, s_brk, s_cont, s_never, s_set, s_asg, g_var, g_sub, g_tup, gs_nil, gs_cons, s_par, s_ret, s_retF, s_retN, s_ite, s_for, for_nil, s_attr, w_prp, w_dun, w_fmt, w_fst, js_nil, js_cons, w_xisi, s_raise0, s_par3, p_add, p_addS, p_addT, p_addL, p_addB, p_sub, p_mul, p_mulL, p_fdiv, p_mod, p_pow, p_neg, p_eqI, p_neI, p_eqS, p_neS, p_eqB, p_lt, p_le, p_gt, p_ge, p_isN, p_isNN, p_isB, p_isNB, p_inT, p_ninT, p_ninK, p_ixL, p_ixT, p_ixK, p_ixG, p_ixR, p_put, p_slL, p_slT, p_lenL, p_lenT, p_lenS, p_intI, p_abs, p_max, p_min, p_divmod, p_tupT, p_tupL, p_tupR, p_all, p_any, p_repr, p_isi, p_app, p_idx, p_itL, p_itT, p_rng1, p_rng2, p_enmT, p_enmL, p_fmtS, p_fmtI, p_dlenI, p_dreprI, p_dboolI, p_dlenL, p_dlenT, p_dlenS, p_dreprL, p_dreprT, p_dreprS, p_dreprN, p_dreprB, p_dreprO, p_dboolN, p_dboolB, p_dboolL, p_strI, p_strS, oto_some, slTo_v, tst_bl, asInt_int, asBl_bl, asLst_l, asRef_r, asL_l, asStr_s, asExn_e, List.set_cons_zero, List.set_cons_succ, List.getElem?_cons_zero, List.getElem?_cons_succ, List.length_cons, List.length_nil, List.nil_append, List.cons_append, List.append_nil, for_cons, List.getElem?_set_self, List.length_set, List.set_set, p_dzip, p_putA, asIns_i, tn_non, tn_bl, tn_int, tn_str, tn_tup, tn_lst, tn_dK, tn_ins, asTn_ty, asTn_glo, tru_bl, tru_non, tru_int, tru_lst, tru_tup, truP_bl, truP_non, truP_int, truP_lst, truP_tup, isNon_non, isNon_int, isNon_tup, isNon_lst, isNon_str, isNon_ins, seqD_tup, seqD_lst, insOf_ins, atI_0, atI_1, atI_2, atI_3, atI_4, ixN_0, ixN_1, ixN_2, ixN_3, ixN_4]
  refine ⟨mul_ok (by omega) (by omega) (by decide) (by decide), True.intro, R.to_mono (draw h4 (by omega) (by decide) (by decide)) ?_⟩
  rintro _ st5 ⟨⟨v5, rfl, a5, b5⟩, h5, f5⟩
  try simp only [w_var, w_int, w_bl, w_non, w_str, w_gl, w_ty, w_bin, w_un, w_cmp, w_chain, w_and, w_or, w_not, w_ife, ev_nil, ev_cons, w_tup, w_lst, w_lstM, w_ix, part_nop, w_sl, w_bi, w_call, w_callS, w_meth, w_op, w_attr, w_app, w_idx, w_dzip, w_lc, w_lcM, w_tru, w_nott, w_andt, w_ort, i_itv, i_rng1, i_rng2, i_enm, b_nil, b_cons, s_exp, s_doc, s_pass, s_brk, s_cont, s_never, s_set, s_asg, g_var, g_sub, g_tup, gs_nil, gs_cons, s_par, s_ret, s_retF, s_retN, s_ite, s_for, for_nil, s_attr, w_prp, w_dun, w_fmt, w_fst, js_nil, js_cons, w_xisi, s_raise0, s_par3, p_add, p_addS, p_addT, p_addL, p_addB, p_sub, p_mul, p_mulL, p_fdiv, p_mod, p_pow, p_neg, p_eqI, p_neI, p_eqS, p_neS, p_eqB, p_lt, p_le, p_gt, p_ge, p_isN, p_isNN, p_isB, p_isNB, p_inT, p_ninT, p_ninK, p_ixL, p_ixT, p_ixK, p_ixG, p_ixR, p_put, p_slL, p_slT, p_lenL, p_lenT, p_lenS, p_intI, p_abs, p_max, p_min, p_divmod, p_tupT, p_tupL, p_tupR, p_all, p_any, p_repr, p_isi, p_app, p_idx, p_itL, p_itT, p_rng1, p_rng2, p_enmT, p_enmL, p_fmtS, p_fmtI, p_dlenI, p_dreprI, p_dboolI, p_dlenL, p_dlenT, p_dlenS, p_dreprL, p_dreprT, p_dreprS, p_dreprN, p_dreprB, p_dreprO, p_dboolN, p_dboolB, p_dboolL, p_strI, p_strS, oto_some, slTo_v, tst_bl, asInt_int, asBl_bl, asLst_l, asRef_r, asL_l, asStr_s, asExn_e, List.set_cons_zero, List.set_cons_succ, List.getElem?_cons_zero, List.getElem?_cons_succ, List.length_cons, List.length_nil, List.nil_append, List.cons_append, List.append_nil, for_cons, List.getElem?_set_self, List.length_set, List.set_set, p_dzip, p_putA, asIns_i, tn_non, tn_bl, tn_int, tn_str, tn_tup, tn_lst, tn_dK, tn_ins, asTn_ty, asTn_glo, tru_bl, tru_non, tru_int, tru_lst, tru_tup, truP_bl, truP_non, truP_int, truP_lst, truP_tup, isNon_non, isNon_int, isNon_tup, isNon_lst, isNon_str, isNon_ins, seqD_tup, seqD_lst, insOf_ins, atI_0, atI_1, atI_2, atI_3, atI_4, ixN_0, ixN_1, ixN_2, ixN_3, ixN_4]
  refine ⟨mul_ok (by omega) (by omega) (by decide) (by decide), True.intro, R.to_mono (draw h5 (by omega) (by decide) (by decide)) ?_⟩
  rintro _ st6 ⟨⟨v6, rfl, a6, b6⟩, h6, f6⟩
  try simp only [w_var, w_int, w_bl, w_non, w_str, w_gl, w_ty, w_bin, w_un, w_cmp, w_chain, w_and, w_or, w_not, w_ife, ev_nil, ev_cons, w_tup, w_lst, w_lstM, w_ix, part_nop, w_sl, w_bi, w_call, w_callS, w_meth, w_op, w_attr, w_app, w_idx, w_dzip, w_lc, w_lcM, w_tru, w_nott, w_andt, w_ort, i_itv, i_rng1, i_rng2, i_enm, b_nil, b_cons, s_exp, s_doc, s_pass, s_brk, s_cont, s_never, s_set, s_asg, g_var, g_sub, g_tup, gs_nil, gs_cons, s_par, s_ret, s_retF, s_retN, s_ite, s_for, for_nil, s_attr, w_prp, w_dun, w_fmt, w_fst, js_nil, js_cons, w_xisi, s_raise0, s_par3, p_add, p_addS, p_addT, p_addL, p_addB, p_sub, p_mul, p_mulL, p_fdiv, p_mod, p_pow, p_neg, p_eqI, p_neI, p_eqS, p_neS, p_eqB, p_lt, p_le, p_gt, p_ge, p_isN, p_isNN, p_isB, p_isNB, p_inT, p_ninT, p_ninK, p_ixL, p_ixT, p_ixK, p_ixG, p_ixR, p_put, p_slL, p_slT, p_lenL, p_lenT, p_lenS, p_intI, p_abs, p_max, p_min, p_divmod, p_tupT, p_tupL, p_tupR, p_all, p_any, p_repr, p_isi, p_app, p_idx, p_itL, p_itT, p_rng1, p_rng2, p_enmT, p_enmL, p_fmtS, p_fmtI, p_dlenI, p_dreprI, p_dboolI, p_dlenL, p_dlenT, p_dlenS, p_dreprL, p_dreprT, p_dreprS, p_dreprN, p_dreprB, p_dreprO, p_dboolN, p_dboolB, p_dboolL, p_strI, p_strS, oto_some, slTo_v, tst_bl, asInt_int, asBl_bl, asLst_l, asRef_r, asL_l, asStr_s, asExn_e, List.set_cons_zero, List.set_cons_succ, List.getElem?_cons_zero, List.getElem?_cons_succ, List.length_cons, List.length_nil, List.nil_append, List.cons_append, List.append_nil, for_cons, List.getElem?_set_self, List.length_set, List.set_set, p_dzip, p_putA, asIns_i, tn_non, tn_bl, tn_int, tn_str, tn_tup, tn_lst, tn_dK, tn_ins, asTn_ty, asTn_glo, tru_bl, tru_non, tru_int, tru_lst, tru_tup, truP_bl, truP_non, truP_int, truP_lst, truP_tup, isNon_non, isNon_int, isNon_tup, isNon_lst, isNon_str, isNon_ins, seqD_tup, seqD_lst, insOf_ins, atI_0, atI_1, atI_2, atI_3, atI_4, ixN_0, ixN_1, ixN_2, ixN_3, ixN_4]
  refine ⟨by omega, ⟨_, rfl, Int.emod_nonneg _ (by omega), ?_⟩, h6.mono (by omega), f1.trans (f2.trans (f3.trans (f4.trans (f5.trans f6))))⟩
  have := Int.emod_lt_of_pos (((((((0 * 1000003 + v1) * 1000003 + v2) * 1000003 + v3) * 1000003 + v4) * 1000003 + v5) * 1000003 + v6)) (show 0 < m + 1 by omega)
  omega
theorem e19 {k : Nat} {a : DV.D} {st : Store} {Q : DV.D → Store → Prop} : (S (k + 1) 19 [] [a] st).to Q = (denB lw.tb (S k) is19 [.v a, .un, .un] st).to (endPo Q) := enter (d := d19) (xs := [a]) rfl rfl
theorem integer {k l : Nat} {n : Int} {st : Store} (h : Pool n st l) (hn : n ≤ 2 ^ 58) : (S (k + 3) 19 [] [.ref l] st).to fun d st' => (∃ v : Int, d = .int v ∧ -(2 ^ 100) ≤ v ∧ v ≤ 2 ^ 100) ∧ Pool (n + 9) st' l ∧ FrS l st st' := by
  have big : (10 : Int) ^ (30 : Int).toNat ≤ 2 ^ 100 := by decide
  have big9 : (10 : Int) ^ (9 : Int).toNat ≤ 2 ^ 100 := by decide
  rw [e19]
  unfold is19
  try simp only [w_var, w_int, w_bl, w_non, w_str, w_gl, w_ty, w_bin, w_un, w_cmp, w_chain, w_and, w_or, w_not, w_ife, ev_nil, ev_cons, w_tup, w_lst, w_lstM, w_ix, part_nop, w_sl, w_bi, w_call, w_callS, w_meth, w_op, w_attr, w_app, w_idx, w_dzip, w_lc, w_lcM, w_tru, w_nott, w_andt, w_ort, i_itv, i_rng1, i_rng2, i_enm, b_nil, b_cons, s_exp, s_doc, s_pass, s_brk, s_cont, s_never, s_set, s_asg, g_var, g_sub, g_tup, gs_nil, gs_cons, s_par, s_ret, s_retF, s_retN, s_ite, s_for, for_nil, s_attr, w_prp, w_dun, w_fmt, w_fst, js_nil, js_cons, w_xisi, s_raise0, s_par3, p_add, p_addS, p_addT, p_addL, p_addB, p_sub, p_mul, p_mulL, p_fdiv, p_mod, p_pow, p_neg, p_eqI, p_neI, p_eqS, p_neS, p_eqB, p_lt, p_le, p_gt, p_ge, p_isN, p_isNN, p_isB, p_isNB, p_inT, p_ninT, p_ninK, p_ixL, p_ixT, p_ixK, p_ixG, p_ixR, p_put, p_slL, p_slT, p_lenL, p_lenT, p_lenS, p_intI, p_abs, p_max, p_min, p_divmod, p_tupT, p_tupL, p_tupR, p_all, p_any, p_repr, p_isi, p_app, p_idx, p_itL, p_itT, p_rng1, p_rng2, p_enmT, p_enmL, p_fmtS, p_fmtI, p_dlenI, p_dreprI, p_dboolI, p_dlenL, p_dlenT, p_dlenS, p_dreprL, p_dreprT, p_dreprS, p_dreprN, p_dreprB, p_dreprO, p_dboolN, p_dboolB, p_dboolL, p_strI, p_strS, oto_some, slTo_v, tst_bl, asInt_int, asBl_bl, asLst_l, asRef_r, asL_l, asStr_s, asExn_e, List.set_cons_zero, List.set_cons_succ, List.getElem?_cons_zero, List.getElem?_cons_succ, List.length_cons, List.length_nil, List.nil_append, List.cons_append, List.append_nil, List.getElem?_set_self, List.length_set, List.set_set, p_dzip, p_putA, asIns_i, tn_non, tn_bl, tn_int, tn_str, tn_tup, tn_lst, tn_dK, tn_ins, asTn_ty, asTn_glo, tru_bl, tru_non, tru_int, tru_lst, tru_tup, truP_bl, truP_non, truP_int, truP_lst, truP_tup, isNon_non, isNon_int, isNon_tup, isNon_lst, isNon_str, isNon_ins, seqD_tup, seqD_lst, insOf_ins, atI_0, atI_1, atI_2, atI_3, atI_4, ixN_0, ixN_1, ixN_2, ixN_3, ixN_4]
  refine ⟨True.intro, R.to_mono (draw h (by omega) (by decide) (by decide)) ?_⟩
  rintro _ st1 ⟨⟨v1, rfl, a1, b1⟩, h1, f1⟩
  try simp only [w_var, w_int, w_bl, w_non, w_str, w_gl, w_ty, w_bin, w_un, w_cmp, w_chain, w_and, w_or, w_not, w_ife, ev_nil, ev_cons, w_tup, w_lst, w_lstM, w_ix, part_nop, w_sl, w_bi, w_call, w_callS, w_meth, w_op, w_attr, w_app, w_idx, w_dzip, w_lc, w_lcM, w_tru, w_nott, w_andt, w_ort, i_itv, i_rng1, i_rng2, i_enm, b_nil, b_cons, s_exp, s_doc, s_pass, s_brk, s_cont, s_never, s_set, s_asg, g_var, g_sub, g_tup, gs_nil, gs_cons, s_par, s_ret, s_retF, s_retN, s_ite, s_for, for_nil, s_attr, w_prp, w_dun, w_fmt, w_fst, js_nil, js_cons, w_xisi, s_raise0, s_par3, p_add, p_addS, p_addT, p_addL, p_addB, p_sub, p_mul, p_mulL, p_fdiv, p_mod, p_pow, p_neg, p_eqI, p_neI, p_eqS, p_neS, p_eqB, p_lt, p_le, p_gt, p_ge, p_isN, p_isNN, p_isB, p_isNB, p_inT, p_ninT, p_ninK, p_ixL, p_ixT, p_ixK, p_ixG, p_ixR, p_put, p_slL, p_slT, p_lenL, p_lenT, p_lenS, p_intI, p_abs, p_max, p_min, p_divmod, p_tupT, p_tupL, p_tupR, p_all, p_any, p_repr, p_isi, p_app, p_idx, p_itL, p_itT, p_rng1, p_rng2, p_enmT, p_enmL, p_fmtS, p_fmtI, p_dlenI, p_dreprI, p_dboolI, p_dlenL, p_dlenT, p_dlenS, p_dreprL, p_dreprT, p_dreprS, p_dreprN, p_dreprB, p_dreprO, p_dboolN, p_dboolB, p_dboolL, p_strI, p_strS, oto_some, slTo_v, tst_bl, asInt_int, asBl_bl, asLst_l, asRef_r, asL_l, asStr_s, asExn_e, List.set_cons_zero, List.set_cons_succ, List.getElem?_cons_zero, List.getElem?_cons_succ, List.length_cons, List.length_nil, List.nil_append, List.cons_append, List.append_nil, List.getElem?_set_self, List.length_set, List.set_set, p_dzip, p_putA, asIns_i, tn_non, tn_bl, tn_int, tn_str, tn_tup, tn_lst, tn_dK, tn_ins, asTn_ty, asTn_glo, tru_bl, tru_non, tru_int, tru_lst, tru_tup, truP_bl, truP_non, truP_int, truP_lst, truP_tup, isNon_non, isNon_int, isNon_tup, isNon_lst, isNon_str, isNon_ins, seqD_tup, seqD_lst, insOf_ins, atI_0, atI_1, atI_2, atI_3, atI_4, ixN_0, ixN_1, ixN_2, ixN_3, ixN_4]
  refine ⟨fun _ => ⟨True.intro, R.to_mono (draw h1 (by omega) (by decide) (by decide)) ?_⟩, fun _ => ⟨fun _ => ⟨by decide, True.intro, R.to_mono (draw h1 (by omega) (by decide) (by decide)) ?_⟩, fun _ => ⟨by decide, True.intro, R.to_mono (far h1 (by omega) (by decide)) ?_⟩⟩⟩
  · rintro _ st2 ⟨⟨v2, rfl, a2, b2⟩, h2, f2⟩
    try simp only [w_var, w_int, w_bl, w_non, w_str, w_gl, w_ty, w_bin, w_un, w_cmp, w_chain, w_and, w_or, w_not, w_ife, ev_nil, ev_cons, w_tup, w_lst, w_lstM, w_ix, part_nop, w_sl, w_bi, w_call, w_callS, w_meth, w_op, w_attr, w_app, w_idx, w_dzip, w_lc, w_lcM, w_tru, w_nott, w_andt, w_ort, i_itv, i_rng1, i_rng2, i_enm, b_nil, b_cons, s_exp, s_doc, s_pass, s_brk, s_cont, s_never, s_set, s_asg, g_var, g_sub, g_tup, gs_nil, gs_cons, s_par, s_ret, s_retF, s_retN, s_ite, s_for, for_nil, s_attr, w_prp, w_dun, w_fmt, w_fst, js_nil, js_cons, w_xisi, s_raise0, s_par3, p_add, p_addS, p_addT, p_addL, p_addB, p_sub, p_mul, p_mulL, p_fdiv, p_mod, p_pow, p_neg, p_eqI, p_neI, p_eqS, p_neS, p_eqB, p_lt, p_le, p_gt, p_ge, p_isN, p_isNN, p_isB, p_isNB, p_inT, p_ninT, p_ninK, p_ixL, p_ixT, p_ixK, p_ixG, p_ixR, p_put, p_slL, p_slT, p_lenL, p_lenT, p_lenS, p_intI, p_abs, p_max, p_min, p_divmod, p_tupT, p_tupL, p_tupR, p_all, p_any, p_repr, p_isi, p_app, p_idx, p_itL, p_itT, p_rng1, p_rng2, p_enmT, p_enmL, p_fmtS, p_fmtI, p_dlenI, p_dreprI, p_dboolI, p_dlenL, p_dlenT, p_dlenS, p_dreprL, p_dreprT, p_dreprS, p_dreprN, p_dreprB, p_dreprO, p_dboolN, p_dboolB, p_dboolL, p_strI, p_strS, oto_some, slTo_v, tst_bl, asInt_int, asBl_bl, asLst_l, asRef_r, asL_l, asStr_s, asExn_e, List.set_cons_zero, List.set_cons_succ, List.getElem?_cons_zero, List.getElem?_cons_succ, List.length_cons, List.length_nil, List.nil_append, List.cons_append, List.append_nil, List.getElem?_set_self, List.length_set, List.set_set, p_dzip, p_putA, asIns_i, tn_non, tn_bl, tn_int, tn_str, tn_tup, tn_lst, tn_dK, tn_ins, asTn_ty, asTn_glo, tru_bl, tru_non, tru_int, tru_lst, tru_tup, truP_bl, truP_non, truP_int, truP_lst, truP_tup, isNon_non, isNon_int, isNon_tup, isNon_lst, isNon_str, isNon_ins, seqD_tup, seqD_lst, insOf_ins, atI_0, atI_1, atI_2, atI_3, atI_4, ixN_0, ixN_1, ixN_2, ixN_3, ixN_4]
    exact ⟨⟨_, rfl, by omega, by omega⟩, h2.mono (by omega), f1.trans f2⟩
  · rintro _ st2 ⟨⟨v2, rfl, a2, b2⟩, h2, f2⟩
    try simp only [w_var, w_int, w_bl, w_non, w_str, w_gl, w_ty, w_bin, w_un, w_cmp, w_chain, w_and, w_or, w_not, w_ife, ev_nil, ev_cons, w_tup, w_lst, w_lstM, w_ix, part_nop, w_sl, w_bi, w_call, w_callS, w_meth, w_op, w_attr, w_app, w_idx, w_dzip, w_lc, w_lcM, w_tru, w_nott, w_andt, w_ort, i_itv, i_rng1, i_rng2, i_enm, b_nil, b_cons, s_exp, s_doc, s_pass, s_brk, s_cont, s_never, s_set, s_asg, g_var, g_sub, g_tup, gs_nil, gs_cons, s_par, s_ret, s_retF, s_retN, s_ite, s_for, for_nil, s_attr, w_prp, w_dun, w_fmt, w_fst, js_nil, js_cons, w_xisi, s_raise0, s_par3, p_add, p_addS, p_addT, p_addL, p_addB, p_sub, p_mul, p_mulL, p_fdiv, p_mod, p_pow, p_neg, p_eqI, p_neI, p_eqS, p_neS, p_eqB, p_lt, p_le, p_gt, p_ge, p_isN, p_isNN, p_isB, p_isNB, p_inT, p_ninT, p_ninK, p_ixL, p_ixT, p_ixK, p_ixG, p_ixR, p_put, p_slL, p_slT, p_lenL, p_lenT, p_lenS, p_intI, p_abs, p_max, p_min, p_divmod, p_tupT, p_tupL, p_tupR, p_all, p_any, p_repr, p_isi, p_app, p_idx, p_itL, p_itT, p_rng1, p_rng2, p_enmT, p_enmL, p_fmtS, p_fmtI, p_dlenI, p_dreprI, p_dboolI, p_dlenL, p_dlenT, p_dlenS, p_dreprL, p_dreprT, p_dreprS, p_dreprN, p_dreprB, p_dreprO, p_dboolN, p_dboolB, p_dboolL, p_strI, p_strS, oto_some, slTo_v, tst_bl, asInt_int, asBl_bl, asLst_l, asRef_r, asL_l, asStr_s, asExn_e, List.set_cons_zero, List.set_cons_succ, List.getElem?_cons_zero, List.getElem?_cons_succ, List.length_cons, List.length_nil, List.nil_append, List.cons_append, List.append_nil, List.getElem?_set_self, List.length_set, List.set_set, p_dzip, p_putA, asIns_i, tn_non, tn_bl, tn_int, tn_str, tn_tup, tn_lst, tn_dK, tn_ins, asTn_ty, asTn_glo, tru_bl, tru_non, tru_int, tru_lst, tru_tup, truP_bl, truP_non, truP_int, truP_lst, truP_tup, isNon_non, isNon_int, isNon_tup, isNon_lst, isNon_str, isNon_ins, seqD_tup, seqD_lst, insOf_ins, atI_0, atI_1, atI_2, atI_3, atI_4, ixN_0, ixN_1, ixN_2, ixN_3, ixN_4]
    refine ⟨True.intro, R.to_mono (draw h2 (by omega) (by decide) (by decide)) ?_⟩
    rintro _ st3 ⟨⟨v3, rfl, a3, b3⟩, h3, f3⟩
    try simp only [w_var, w_int, w_bl, w_non, w_str, w_gl, w_ty, w_bin, w_un, w_cmp, w_chain, w_and, w_or, w_not, w_ife, ev_nil, ev_cons, w_tup, w_lst, w_lstM, w_ix, part_nop, w_sl, w_bi, w_call, w_callS, w_meth, w_op, w_attr, w_app, w_idx, w_dzip, w_lc, w_lcM, w_tru, w_nott, w_andt, w_ort, i_itv, i_rng1, i_rng2, i_enm, b_nil, b_cons, s_exp, s_doc, s_pass, s_brk, s_cont, s_never, s_set, s_asg, g_var, g_sub, g_tup, gs_nil, gs_cons, s_par, s_ret, s_retF, s_retN, s_ite, s_for, for_nil, s_attr, w_prp, w_dun, w_fmt, w_fst, js_nil, js_cons, w_xisi, s_raise0, s_par3, p_add, p_addS, p_addT, p_addL, p_addB, p_sub, p_mul, p_mulL, p_fdiv, p_mod, p_pow, p_neg, p_eqI, p_neI, p_eqS, p_neS, p_eqB, p_lt, p_le, p_gt, p_ge, p_isN, p_isNN, p_isB, p_isNB, p_inT, p_ninT, p_ninK, p_ixL, p_ixT, p_ixK, p_ixG, p_ixR, p_put, p_slL, p_slT, p_lenL, p_lenT, p_lenS, p_intI, p_abs, p_max, p_min, p_divmod, p_tupT, p_tupL, p_tupR, p_all, p_any, p_repr, p_isi, p_app, p_idx, p_itL, p_itT, p_rng1, p_rng2, p_enmT, p_enmL, p_fmtS, p_fmtI, p_dlenI, p_dreprI, p_dboolI, p_dlenL, p_dlenT, p_dlenS, p_dreprL, p_dreprT, p_dreprS, p_dreprN, p_dreprB, p_dreprO, p_dboolN, p_dboolB, p_dboolL, p_strI, p_strS, oto_some, slTo_v, tst_bl, asInt_int, asBl_bl, asLst_l, asRef_r, asL_l, asStr_s, asExn_e, List.set_cons_zero, List.set_cons_succ, List.getElem?_cons_zero, List.getElem?_cons_succ, List.length_cons, List.length_nil, List.nil_append, List.cons_append, List.append_nil, List.getElem?_set_self, List.length_set, List.set_set, p_dzip, p_putA, asIns_i, tn_non, tn_bl, tn_int, tn_str, tn_tup, tn_lst, tn_dK, tn_ins, asTn_ty, asTn_glo, tru_bl, tru_non, tru_int, tru_lst, tru_tup, truP_bl, truP_non, truP_int, truP_lst, truP_tup, isNon_non, isNon_int, isNon_tup, isNon_lst, isNon_str, isNon_ins, seqD_tup, seqD_lst, insOf_ins, atI_0, atI_1, atI_2, atI_3, atI_4, ixN_0, ixN_1, ixN_2, ixN_3, ixN_4]
    exact ⟨fun _ => ⟨⟨_, rfl, by omega, by omega⟩, h3.mono (by omega), f1.trans (f2.trans f3)⟩, fun _ => ⟨⟨_, rfl, by omega, by omega⟩, h3.mono (by omega), f1.trans (f2.trans f3)⟩⟩
  · rintro _ st2 ⟨⟨v2, rfl, a2, b2⟩, h2, f2⟩
    try simp only [w_var, w_int, w_bl, w_non, w_str, w_gl, w_ty, w_bin, w_un, w_cmp, w_chain, w_and, w_or, w_not, w_ife, ev_nil, ev_cons, w_tup, w_lst, w_lstM, w_ix, part_nop, w_sl, w_bi, w_call, w_callS, w_meth, w_op, w_attr, w_app, w_idx, w_dzip, w_lc, w_lcM, w_tru, w_nott, w_andt, w_ort, i_itv, i_rng1, i_rng2, i_enm, b_nil, b_cons, s_exp, s_doc, s_pass, s_brk, s_cont, s_never, s_set, s_asg, g_var, g_sub, g_tup, gs_nil, gs_cons, s_par, s_ret, s_retF, s_retN, s_ite, s_for, for_nil, s_attr, w_prp, w_dun, w_fmt, w_fst, js_nil, js_cons, w_xisi, s_raise0, s_par3, p_add, p_addS, p_addT, p_addL, p_addB, p_sub, p_mul, p_mulL, p_fdiv, p_mod, p_pow, p_neg, p_eqI, p_neI, p_eqS, p_neS, p_eqB, p_lt, p_le, p_gt, p_ge, p_isN, p_isNN, p_isB, p_isNB, p_inT, p_ninT, p_ninK, p_ixL, p_ixT, p_ixK, p_ixG, p_ixR, p_put, p_slL, p_slT, p_lenL, p_lenT, p_lenS, p_intI, p_abs, p_max, p_min, p_divmod, p_tupT, p_tupL, p_tupR, p_all, p_any, p_repr, p_isi, p_app, p_idx, p_itL, p_itT, p_rng1, p_rng2, p_enmT, p_enmL, p_fmtS, p_fmtI, p_dlenI, p_dreprI, p_dboolI, p_dlenL, p_dlenT, p_dlenS, p_dreprL, p_dreprT, p_dreprS, p_dreprN, p_dreprB, p_dreprO, p_dboolN, p_dboolB, p_dboolL, p_strI, p_strS, oto_some, slTo_v, tst_bl, asInt_int, asBl_bl, asLst_l, asRef_r, asL_l, asStr_s, asExn_e, List.set_cons_zero, List.set_cons_succ, List.getElem?_cons_zero, List.getElem?_cons_succ, List.length_cons, List.length_nil, List.nil_append, List.cons_append, List.append_nil, List.getElem?_set_self, List.length_set, List.set_set, p_dzip, p_putA, asIns_i, tn_non, tn_bl, tn_int, tn_str, tn_tup, tn_lst, tn_dK, tn_ins, asTn_ty, asTn_glo, tru_bl, tru_non, tru_int, tru_lst, tru_tup, truP_bl, truP_non, truP_int, truP_lst, truP_tup, isNon_non, isNon_int, isNon_tup, isNon_lst, isNon_str, isNon_ins, seqD_tup, seqD_lst, insOf_ins, atI_0, atI_1, atI_2, atI_3, atI_4, ixN_0, ixN_1, ixN_2, ixN_3, ixN_4]
    refine ⟨True.intro, R.to_mono (draw h2 (by omega) (by decide) (by decide)) ?_⟩
    rintro _ st3 ⟨⟨v3, rfl, a3, b3⟩, h3, f3⟩
    try simp only [w_var, w_int, w_bl, w_non, w_str, w_gl, w_ty, w_bin, w_un, w_cmp, w_chain, w_and, w_or, w_not, w_ife, ev_nil, ev_cons, w_tup, w_lst, w_lstM, w_ix, part_nop, w_sl, w_bi, w_call, w_callS, w_meth, w_op, w_attr, w_app, w_idx, w_dzip, w_lc, w_lcM, w_tru, w_nott, w_andt, w_ort, i_itv, i_rng1, i_rng2, i_enm, b_nil, b_cons, s_exp, s_doc, s_pass, s_brk, s_cont, s_never, s_set, s_asg, g_var, g_sub, g_tup, gs_nil, gs_cons, s_par, s_ret, s_retF, s_retN, s_ite, s_for, for_nil, s_attr, w_prp, w_dun, w_fmt, w_fst, js_nil, js_cons, w_xisi, s_raise0, s_par3, p_add, p_addS, p_addT, p_addL, p_addB, p_sub, p_mul, p_mulL, p_fdiv, p_mod, p_pow, p_neg, p_eqI, p_neI, p_eqS, p_neS, p_eqB, p_lt, p_le, p_gt, p_ge, p_isN, p_isNN, p_isB, p_isNB, p_inT, p_ninT, p_ninK, p_ixL, p_ixT, p_ixK, p_ixG, p_ixR, p_put, p_slL, p_slT, p_lenL, p_lenT, p_lenS, p_intI, p_abs, p_max, p_min, p_divmod, p_tupT, p_tupL, p_tupR, p_all, p_any, p_repr, p_isi, p_app, p_idx, p_itL, p_itT, p_rng1, p_rng2, p_enmT, p_enmL, p_fmtS, p_fmtI, p_dlenI, p_dreprI, p_dboolI, p_dlenL, p_dlenT, p_dlenS, p_dreprL, p_dreprT, p_dreprS, p_dreprN, p_dreprB, p_dreprO, p_dboolN, p_dboolB, p_dboolL, p_strI, p_strS, oto_some, slTo_v, tst_bl, asInt_int, asBl_bl, asLst_l, asRef_r, asL_l, asStr_s, asExn_e, List.set_cons_zero, List.set_cons_succ, List.getElem?_cons_zero, List.getElem?_cons_succ, List.length_cons, List.length_nil, List.nil_append, List.cons_append, List.append_nil, List.getElem?_set_self, List.length_set, List.set_set, p_dzip, p_putA, asIns_i, tn_non, tn_bl, tn_int, tn_str, tn_tup, tn_lst, tn_dK, tn_ins, asTn_ty, asTn_glo, tru_bl, tru_non, tru_int, tru_lst, tru_tup, truP_bl, truP_non, truP_int, truP_lst, truP_tup, isNon_non, isNon_int, isNon_tup, isNon_lst, isNon_str, isNon_ins, seqD_tup, seqD_lst, insOf_ins, atI_0, atI_1, atI_2, atI_3, atI_4, ixN_0, ixN_1, ixN_2, ixN_3, ixN_4]
    exact ⟨fun _ => ⟨⟨_, rfl, by omega, by omega⟩, h3.mono (by omega), f1.trans (f2.trans f3)⟩, fun _ => ⟨⟨_, rfl, by omega, by omega⟩, h3.mono (by omega), f1.trans (f2.trans f3)⟩⟩
end K22

namespace K22
open PySem PySem.Spec PyProof.Rows L2 DV
theorem e14 {k : Nat} {a b : DV.D} {st : Store} {Q : DV.D → Store → Prop} : (S (k + 1) 14 [] [a, b] st).to Q = (denB lw.tb (S k) is14 [.v a, .v b, .un, .un] st).to (endPo Q) := enter (d := d14) (xs := [a, b]) rfl rfl
theorem cell {k : Nat} {ns : List Int} {i : Int} {st : Store} (h0 : 0 ≤ i) (h1 : i < 100) : (S (k + 1) 14 [] [.lst (ns.map .int), .int i] st).to fun d st' => (∃ v : Int, d = .int v) ∧ st' = st := by
  rw [e14]
  unfold is14
  try simp only [w_var, w_int, w_bl, w_non, w_str, w_gl, w_ty, w_bin, w_un, w_cmp, w_chain, w_and, w_or, w_not, w_ife, ev_nil, ev_cons, w_tup, w_lst, w_lstM, w_ix, part_nop, w_sl, w_bi, w_call, w_callS, w_meth, w_op, w_attr, w_app, w_idx, w_dzip, w_lc, w_lcM, w_tru, w_nott, w_andt, w_ort, i_itv, i_rng1, i_rng2, i_enm, b_nil, b_cons, s_exp, s_doc, s_pass, s_brk, s_cont, s_never, s_set, s_asg, g_var, g_sub, g_tup, gs_nil, gs_cons, s_par, s_ret, s_retF, s_retN, s_ite, s_for, for_nil, s_attr, w_prp, w_dun, w_fmt, w_fst, js_nil, js_cons, w_xisi, s_raise0, s_par3, p_add, p_addS, p_addT, p_addL, p_addB, p_sub, p_mul, p_mulL, p_fdiv, p_mod, p_pow, p_neg, p_eqI, p_neI, p_eqS, p_neS, p_eqB, p_lt, p_le, p_gt, p_ge, p_isN, p_isNN, p_isB, p_isNB, p_inT, p_ninT, p_ninK, p_ixL, p_ixT, p_ixK, p_ixG, p_ixR, p_put, p_slL, p_slT, p_lenL, p_lenT, p_lenS, p_intI, p_abs, p_max, p_min, p_divmod, p_tupT, p_tupL, p_tupR, p_all, p_any, p_repr, p_isi, p_app, p_idx, p_itL, p_itT, p_rng1, p_rng2, p_enmT, p_enmL, p_fmtS, p_fmtI, p_dlenI, p_dreprI, p_dboolI, p_dlenL, p_dlenT, p_dlenS, p_dreprL, p_dreprT, p_dreprS, p_dreprN, p_dreprB, p_dreprO, p_dboolN, p_dboolB, p_dboolL, p_strI, p_strS, oto_some, slTo_v, tst_bl, asInt_int, asBl_bl, asLst_l, asRef_r, asL_l, asStr_s, asExn_e, List.set_cons_zero, List.set_cons_succ, List.getElem?_cons_zero, List.getElem?_cons_succ, List.length_cons, List.length_nil, List.nil_append, List.cons_append, List.append_nil, List.getElem?_set_self, List.length_set, List.set_set, p_dzip, p_putA, asIns_i, tn_non, tn_bl, tn_int, tn_str, tn_tup, tn_lst, tn_dK, tn_ins, asTn_ty, asTn_glo, tru_bl, tru_non, tru_int, tru_lst, tru_tup, truP_bl, truP_non, truP_int, truP_lst, truP_tup, isNon_non, isNon_int, isNon_tup, isNon_lst, isNon_str, isNon_ins, seqD_tup, seqD_lst, insOf_ins, atI_0, atI_1, atI_2, atI_3, atI_4, ixN_0, ixN_1, ixN_2, ixN_3, ixN_4]
  refine ⟨fun q => ?_, fun q => ⟨mul_ok (by decide) (by decide) (by omega) (by omega), mul_ok (by omega) (by omega) (by omega) (by omega), mul_ok (by decide) (by decide) (by omega) (by omega), ?_⟩⟩
  · rw [decide_eq_true_eq, List.length_map] at q
    have e : atI (ns.map DV.D.int) i = some (.int (ns.getD i.toNat 0)) := by
      unfold atI ixN
      rw [if_pos h0, if_pos (by rw [List.length_map]; exact q)]
      show (ns.map DV.D.int)[i.toNat]? = _
      rw [List.getElem?_map, List.getD_eq_getElem?_getD, List.getElem?_eq_getElem (by omega)]
      rfl
    rw [e]
    try simp only [w_var, w_int, w_bl, w_non, w_str, w_gl, w_ty, w_bin, w_un, w_cmp, w_chain, w_and, w_or, w_not, w_ife, ev_nil, ev_cons, w_tup, w_lst, w_lstM, w_ix, part_nop, w_sl, w_bi, w_call, w_callS, w_meth, w_op, w_attr, w_app, w_idx, w_dzip, w_lc, w_lcM, w_tru, w_nott, w_andt, w_ort, i_itv, i_rng1, i_rng2, i_enm, b_nil, b_cons, s_exp, s_doc, s_pass, s_brk, s_cont, s_never, s_set, s_asg, g_var, g_sub, g_tup, gs_nil, gs_cons, s_par, s_ret, s_retF, s_retN, s_ite, s_for, for_nil, s_attr, w_prp, w_dun, w_fmt, w_fst, js_nil, js_cons, w_xisi, s_raise0, s_par3, p_add, p_addS, p_addT, p_addL, p_addB, p_sub, p_mul, p_mulL, p_fdiv, p_mod, p_pow, p_neg, p_eqI, p_neI, p_eqS, p_neS, p_eqB, p_lt, p_le, p_gt, p_ge, p_isN, p_isNN, p_isB, p_isNB, p_inT, p_ninT, p_ninK, p_ixL, p_ixT, p_ixK, p_ixG, p_ixR, p_put, p_slL, p_slT, p_lenL, p_lenT, p_lenS, p_intI, p_abs, p_max, p_min, p_divmod, p_tupT, p_tupL, p_tupR, p_all, p_any, p_repr, p_isi, p_app, p_idx, p_itL, p_itT, p_rng1, p_rng2, p_enmT, p_enmL, p_fmtS, p_fmtI, p_dlenI, p_dreprI, p_dboolI, p_dlenL, p_dlenT, p_dlenS, p_dreprL, p_dreprT, p_dreprS, p_dreprN, p_dreprB, p_dreprO, p_dboolN, p_dboolB, p_dboolL, p_strI, p_strS, oto_some, slTo_v, tst_bl, asInt_int, asBl_bl, asLst_l, asRef_r, asL_l, asStr_s, asExn_e, List.set_cons_zero, List.set_cons_succ, List.getElem?_cons_zero, List.getElem?_cons_succ, List.length_cons, List.length_nil, List.nil_append, List.cons_append, List.append_nil, List.getElem?_set_self, List.length_set, List.set_set, p_dzip, p_putA, asIns_i, tn_non, tn_bl, tn_int, tn_str, tn_tup, tn_lst, tn_dK, tn_ins, asTn_ty, asTn_glo, tru_bl, tru_non, tru_int, tru_lst, tru_tup, truP_bl, truP_non, truP_int, truP_lst, truP_tup, isNon_non, isNon_int, isNon_tup, isNon_lst, isNon_str, isNon_ins, seqD_tup, seqD_lst, insOf_ins, atI_0, atI_1, atI_2, atI_3, atI_4, ixN_0, ixN_1, ixN_2, ixN_3, ixN_4]
    exact ⟨⟨_, rfl⟩, rfl⟩
  · rw [part_of _ _ _ _ _ (by intro z; cases z)]
    try simp only [w_var, w_int, w_bl, w_non, w_str, w_gl, w_ty, w_bin, w_un, w_cmp, w_chain, w_and, w_or, w_not, w_ife, ev_nil, ev_cons, w_tup, w_lst, w_lstM, w_ix, part_nop, w_sl, w_bi, w_call, w_callS, w_meth, w_op, w_attr, w_app, w_idx, w_dzip, w_lc, w_lcM, w_tru, w_nott, w_andt, w_ort, i_itv, i_rng1, i_rng2, i_enm, b_nil, b_cons, s_exp, s_doc, s_pass, s_brk, s_cont, s_never, s_set, s_asg, g_var, g_sub, g_tup, gs_nil, gs_cons, s_par, s_ret, s_retF, s_retN, s_ite, s_for, for_nil, s_attr, w_prp, w_dun, w_fmt, w_fst, js_nil, js_cons, w_xisi, s_raise0, s_par3, p_add, p_addS, p_addT, p_addL, p_addB, p_sub, p_mul, p_mulL, p_fdiv, p_mod, p_pow, p_neg, p_eqI, p_neI, p_eqS, p_neS, p_eqB, p_lt, p_le, p_gt, p_ge, p_isN, p_isNN, p_isB, p_isNB, p_inT, p_ninT, p_ninK, p_ixL, p_ixT, p_ixK, p_ixG, p_ixR, p_put, p_slL, p_slT, p_lenL, p_lenT, p_lenS, p_intI, p_abs, p_max, p_min, p_divmod, p_tupT, p_tupL, p_tupR, p_all, p_any, p_repr, p_isi, p_app, p_idx, p_itL, p_itT, p_rng1, p_rng2, p_enmT, p_enmL, p_fmtS, p_fmtI, p_dlenI, p_dreprI, p_dboolI, p_dlenL, p_dlenT, p_dlenS, p_dreprL, p_dreprT, p_dreprS, p_dreprN, p_dreprB, p_dreprO, p_dboolN, p_dboolB, p_dboolL, p_strI, p_strS, oto_some, slTo_v, tst_bl, asInt_int, asBl_bl, asLst_l, asRef_r, asL_l, asStr_s, asExn_e, List.set_cons_zero, List.set_cons_succ, List.getElem?_cons_zero, List.getElem?_cons_succ, List.length_cons, List.length_nil, List.nil_append, List.cons_append, List.append_nil, List.getElem?_set_self, List.length_set, List.set_set, p_dzip, p_putA, asIns_i, tn_non, tn_bl, tn_int, tn_str, tn_tup, tn_lst, tn_dK, tn_ins, asTn_ty, asTn_glo, tru_bl, tru_non, tru_int, tru_lst, tru_tup, truP_bl, truP_non, truP_int, truP_lst, truP_tup, isNon_non, isNon_int, isNon_tup, isNon_lst, isNon_str, isNon_ins, seqD_tup, seqD_lst, insOf_ins, atI_0, atI_1, atI_2, atI_3, atI_4, ixN_0, ixN_1, ixN_2, ixN_3, ixN_4]
    refine for_inv (fun ds ρ st' => ∃ (s c : Int) (x : Sl), ρ = [.v (.lst (ns.map .int)), .v (.int i), .v (.int s), x] ∧ -(2 ^ 100) < s ∧ s < 2 ^ 100 ∧ (∀ d ∈ ds, ∃ z : Int, d = .int z) ∧ st' = st) ?_ ?_ _ _ _ ⟨_, 0, _, rfl, ?_, ?_, ?_, rfl⟩
    · rintro d ds ρ st' ⟨s, c, x, rfl, a1, a2, a3, rfl⟩
      obtain ⟨z, rfl⟩ := a3 d (List.mem_cons_self ..)
      try simp only [w_var, w_int, w_bl, w_non, w_str, w_gl, w_ty, w_bin, w_un, w_cmp, w_chain, w_and, w_or, w_not, w_ife, ev_nil, ev_cons, w_tup, w_lst, w_lstM, w_ix, part_nop, w_sl, w_bi, w_call, w_callS, w_meth, w_op, w_attr, w_app, w_idx, w_dzip, w_lc, w_lcM, w_tru, w_nott, w_andt, w_ort, i_itv, i_rng1, i_rng2, i_enm, b_nil, b_cons, s_exp, s_doc, s_pass, s_brk, s_cont, s_never, s_set, s_asg, g_var, g_sub, g_tup, gs_nil, gs_cons, s_par, s_ret, s_retF, s_retN, s_ite, s_for, for_nil, s_attr, w_prp, w_dun, w_fmt, w_fst, js_nil, js_cons, w_xisi, s_raise0, s_par3, p_add, p_addS, p_addT, p_addL, p_addB, p_sub, p_mul, p_mulL, p_fdiv, p_mod, p_pow, p_neg, p_eqI, p_neI, p_eqS, p_neS, p_eqB, p_lt, p_le, p_gt, p_ge, p_isN, p_isNN, p_isB, p_isNB, p_inT, p_ninT, p_ninK, p_ixL, p_ixT, p_ixK, p_ixG, p_ixR, p_put, p_slL, p_slT, p_lenL, p_lenT, p_lenS, p_intI, p_abs, p_max, p_min, p_divmod, p_tupT, p_tupL, p_tupR, p_all, p_any, p_repr, p_isi, p_app, p_idx, p_itL, p_itT, p_rng1, p_rng2, p_enmT, p_enmL, p_fmtS, p_fmtI, p_dlenI, p_dreprI, p_dboolI, p_dlenL, p_dlenT, p_dlenS, p_dreprL, p_dreprT, p_dreprS, p_dreprN, p_dreprB, p_dreprO, p_dboolN, p_dboolB, p_dboolL, p_strI, p_strS, oto_some, slTo_v, tst_bl, asInt_int, asBl_bl, asLst_l, asRef_r, asL_l, asStr_s, asExn_e, List.set_cons_zero, List.set_cons_succ, List.getElem?_cons_zero, List.getElem?_cons_succ, List.length_cons, List.length_nil, List.nil_append, List.cons_append, List.append_nil, List.getElem?_set_self, List.length_set, List.set_set, p_dzip, p_putA, asIns_i, tn_non, tn_bl, tn_int, tn_str, tn_tup, tn_lst, tn_dK, tn_ins, asTn_ty, asTn_glo, tru_bl, tru_non, tru_int, tru_lst, tru_tup, truP_bl, truP_non, truP_int, truP_lst, truP_tup, isNon_non, isNon_int, isNon_tup, isNon_lst, isNon_str, isNon_ins, seqD_tup, seqD_lst, insOf_ins, atI_0, atI_1, atI_2, atI_3, atI_4, ixN_0, ixN_1, ixN_2, ixN_3, ixN_4]
      have b1 : 0 ≤ (s * 65537 + z) % 2147483629 := Int.emod_nonneg _ (by decide)
      have b2 : (s * 65537 + z) % 2147483629 < 2147483629 := Int.emod_lt_of_pos _ (by decide)
      exact ⟨mul_ok (by omega) (by omega) (by decide) (by decide), by decide, _, 0, _, rfl, by omega, by omega, fun d hd => a3 d (List.mem_cons_of_mem _ hd), True.intro⟩
    · rintro ρ st' ⟨s, c, x, rfl, a1, a2, a3, rfl⟩
      try simp only [w_var, w_int, w_bl, w_non, w_str, w_gl, w_ty, w_bin, w_un, w_cmp, w_chain, w_and, w_or, w_not, w_ife, ev_nil, ev_cons, w_tup, w_lst, w_lstM, w_ix, part_nop, w_sl, w_bi, w_call, w_callS, w_meth, w_op, w_attr, w_app, w_idx, w_dzip, w_lc, w_lcM, w_tru, w_nott, w_andt, w_ort, i_itv, i_rng1, i_rng2, i_enm, b_nil, b_cons, s_exp, s_doc, s_pass, s_brk, s_cont, s_never, s_set, s_asg, g_var, g_sub, g_tup, gs_nil, gs_cons, s_par, s_ret, s_retF, s_retN, s_ite, s_for, for_nil, s_attr, w_prp, w_dun, w_fmt, w_fst, js_nil, js_cons, w_xisi, s_raise0, s_par3, p_add, p_addS, p_addT, p_addL, p_addB, p_sub, p_mul, p_mulL, p_fdiv, p_mod, p_pow, p_neg, p_eqI, p_neI, p_eqS, p_neS, p_eqB, p_lt, p_le, p_gt, p_ge, p_isN, p_isNN, p_isB, p_isNB, p_inT, p_ninT, p_ninK, p_ixL, p_ixT, p_ixK, p_ixG, p_ixR, p_put, p_slL, p_slT, p_lenL, p_lenT, p_lenS, p_intI, p_abs, p_max, p_min, p_divmod, p_tupT, p_tupL, p_tupR, p_all, p_any, p_repr, p_isi, p_app, p_idx, p_itL, p_itT, p_rng1, p_rng2, p_enmT, p_enmL, p_fmtS, p_fmtI, p_dlenI, p_dreprI, p_dboolI, p_dlenL, p_dlenT, p_dlenS, p_dreprL, p_dreprT, p_dreprS, p_dreprN, p_dreprB, p_dreprO, p_dboolN, p_dboolB, p_dboolL, p_strI, p_strS, oto_some, slTo_v, tst_bl, asInt_int, asBl_bl, asLst_l, asRef_r, asL_l, asStr_s, asExn_e, List.set_cons_zero, List.set_cons_succ, List.getElem?_cons_zero, List.getElem?_cons_succ, List.length_cons, List.length_nil, List.nil_append, List.cons_append, List.append_nil, List.getElem?_set_self, List.length_set, List.set_set, p_dzip, p_putA, asIns_i, tn_non, tn_bl, tn_int, tn_str, tn_tup, tn_lst, tn_dK, tn_ins, asTn_ty, asTn_glo, tru_bl, tru_non, tru_int, tru_lst, tru_tup, truP_bl, truP_non, truP_int, truP_lst, truP_tup, isNon_non, isNon_int, isNon_tup, isNon_lst, isNon_str, isNon_ins, seqD_tup, seqD_lst, insOf_ins, atI_0, atI_1, atI_2, atI_3, atI_4, ixN_0, ixN_1, ixN_2, ixN_3, ixN_4]
      exact ⟨⟨_, rfl⟩, rfl⟩
    · have : 0 ≤ i * i := Int.mul_nonneg h0 h0
      have e : 40507 * i * i = 40507 * (i * i) := Int.mul_assoc ..
      rw [e]
      omega
    · have : i * i ≤ 100 * 100 := Int.mul_le_mul (by omega) (by omega) h0 (by decide)
      have e : 40507 * i * i = 40507 * (i * i) := Int.mul_assoc ..
      rw [e]
      omega
    · intro d hd
      have hd : d ∈ DV.cutD (ns.map DV.D.int) none (some 5) := hd
      unfold DV.cutD at hd
      have := List.mem_of_mem_drop (List.mem_of_mem_take hd)
      obtain ⟨z, _, e⟩ := List.mem_map.mp this
      exact ⟨z, e.symm⟩
theorem e15 {k : Nat} {a : DV.D} {st : Store} {Q : DV.D → Store → Prop} : (S (k + 1) 15 [] [a] st).to Q = (denB lw.tb (S k) is15 [.v a, .un] st).to (endPo Q) := enter (d := d15) (xs := [a]) rfl rfl
theorem pool {k : Nat} {i : Int} {st : Store} : (S (k + 1) 15 [] [.int i] st).to fun d st' => d = .ref st.length ∧ ∃ o, st' = st ++ [o] ∧ Pool 0 st' st.length := by
  rw [e15]
  unfold is15
  try simp only [w_var, w_int, w_bl, w_non, w_str, w_gl, w_ty, w_bin, w_un, w_cmp, w_chain, w_and, w_or, w_not, w_ife, ev_nil, ev_cons, w_tup, w_lst, w_lstM, w_ix, part_nop, w_sl, w_bi, w_call, w_callS, w_meth, w_op, w_attr, w_app, w_idx, w_dzip, w_lc, w_lcM, w_tru, w_nott, w_andt, w_ort, i_itv, i_rng1, i_rng2, i_enm, b_nil, b_cons, s_exp, s_doc, s_pass, s_brk, s_cont, s_never, s_set, s_asg, g_var, g_sub, g_tup, gs_nil, gs_cons, s_par, s_ret, s_retF, s_retN, s_ite, s_for, for_nil, s_attr, w_prp, w_dun, w_fmt, w_fst, js_nil, js_cons, w_xisi, s_raise0, s_par3, p_add, p_addS, p_addT, p_addL, p_addB, p_sub, p_mul, p_mulL, p_fdiv, p_mod, p_pow, p_neg, p_eqI, p_neI, p_eqS, p_neS, p_eqB, p_lt, p_le, p_gt, p_ge, p_isN, p_isNN, p_isB, p_isNB, p_inT, p_ninT, p_ninK, p_ixL, p_ixT, p_ixK, p_ixG, p_ixR, p_put, p_slL, p_slT, p_lenL, p_lenT, p_lenS, p_intI, p_abs, p_max, p_min, p_divmod, p_tupT, p_tupL, p_tupR, p_all, p_any, p_repr, p_isi, p_app, p_idx, p_itL, p_itT, p_rng1, p_rng2, p_enmT, p_enmL, p_fmtS, p_fmtI, p_dlenI, p_dreprI, p_dboolI, p_dlenL, p_dlenT, p_dlenS, p_dreprL, p_dreprT, p_dreprS, p_dreprN, p_dreprB, p_dreprO, p_dboolN, p_dboolB, p_dboolL, p_strI, p_strS, oto_some, slTo_v, tst_bl, asInt_int, asBl_bl, asLst_l, asRef_r, asL_l, asStr_s, asExn_e, List.set_cons_zero, List.set_cons_succ, List.getElem?_cons_zero, List.getElem?_cons_succ, List.length_cons, List.length_nil, List.nil_append, List.cons_append, List.append_nil, List.getElem?_set_self, List.length_set, List.set_set, p_dzip, p_putA, asIns_i, tn_non, tn_bl, tn_int, tn_str, tn_tup, tn_lst, tn_dK, tn_ins, asTn_ty, asTn_glo, tru_bl, tru_non, tru_int, tru_lst, tru_tup, truP_bl, truP_non, truP_int, truP_lst, truP_tup, isNon_non, isNon_int, isNon_tup, isNon_lst, isNon_str, isNon_ins, seqD_tup, seqD_lst, insOf_ins, atI_0, atI_1, atI_2, atI_3, atI_4, ixN_0, ixN_1, ixN_2, ixN_3, ixN_4]
  have b1 : 0 ≤ i % 2147483629 := Int.emod_nonneg _ (by decide)
  have b2 : i % 2147483629 < 2147483629 := Int.emod_lt_of_pos _ (by decide)
  have fin : ∀ g : Int, 0 ≤ g → Pool 0 (st ++ [MO.lst [.int (i % 2147483629), .int g, .int 0]]) st.length := fun g hg => ⟨_, g, 0, by rw [List.getElem?_append_right (Nat.le_refl _), Nat.sub_self]; rfl, b1, b2, hg, by decide, by decide⟩
  have ab : 0 ≤ (if i < 0 then -i else i) := by split <;> omega
  refine ⟨fun q => ⟨fun _ => ⟨by decide, by decide, rfl, _, rfl, fin _ ab⟩, fun z => by cases z⟩, fun q => ⟨by decide, fun _ => ⟨by decide, by decide, rfl, _, rfl, fin _ ab⟩, fun _ => ⟨by decide, by decide, rfl, _, rfl, fin _ (by decide)⟩⟩⟩
theorem e18 {k : Nat} {a b : DV.D} {st : Store} {Q : DV.D → Store → Prop} : (S (k + 1) 18 [] [a, b] st).to Q = (denB lw.tb (S k) is18 [.v a, .v b, .un] st).to (endPo Q) := enter (d := d18) (xs := [a, b]) rfl rfl
/-- pools, each its own -/
def Pools (st : Store) (ds : List DV.D) : Prop := ∃ ls : List Nat, ds = ls.map .ref ∧ ls.Nodup ∧ (∀ l ∈ ls, Pool 0 st l) ∧ ls.length < 1000
theorem pools {k : Nat} {ns : List Int} {m : Int} {st : Store} (h0 : 0 ≤ m) (h1 : m < 100) : (S (k + 2) 18 [] [.lst (ns.map .int), .int m] st).to fun d st' => ∃ ds, d = .lst ds ∧ Pools st' ds := by
  rw [e18]
  unfold is18
  try simp only [w_var, w_int, w_bl, w_non, w_str, w_gl, w_ty, w_bin, w_un, w_cmp, w_chain, w_and, w_or, w_not, w_ife, ev_nil, ev_cons, w_tup, w_lst, w_lstM, w_ix, part_nop, w_sl, w_bi, w_call, w_callS, w_meth, w_op, w_attr, w_app, w_idx, w_dzip, w_lc, w_lcM, w_tru, w_nott, w_andt, w_ort, i_itv, i_rng1, i_rng2, i_enm, b_nil, b_cons, s_exp, s_doc, s_pass, s_brk, s_cont, s_never, s_set, s_asg, g_var, g_sub, g_tup, gs_nil, gs_cons, s_par, s_ret, s_retF, s_retN, s_ite, s_for, for_nil, s_attr, w_prp, w_dun, w_fmt, w_fst, js_nil, js_cons, w_xisi, s_raise0, s_par3, p_add, p_addS, p_addT, p_addL, p_addB, p_sub, p_mul, p_mulL, p_fdiv, p_mod, p_pow, p_neg, p_eqI, p_neI, p_eqS, p_neS, p_eqB, p_lt, p_le, p_gt, p_ge, p_isN, p_isNN, p_isB, p_isNB, p_inT, p_ninT, p_ninK, p_ixL, p_ixT, p_ixK, p_ixG, p_ixR, p_put, p_slL, p_slT, p_lenL, p_lenT, p_lenS, p_intI, p_abs, p_max, p_min, p_divmod, p_tupT, p_tupL, p_tupR, p_all, p_any, p_repr, p_isi, p_app, p_idx, p_itL, p_itT, p_rng1, p_rng2, p_enmT, p_enmL, p_fmtS, p_fmtI, p_dlenI, p_dreprI, p_dboolI, p_dlenL, p_dlenT, p_dlenS, p_dreprL, p_dreprT, p_dreprS, p_dreprN, p_dreprB, p_dreprO, p_dboolN, p_dboolB, p_dboolL, p_strI, p_strS, oto_some, slTo_v, tst_bl, asInt_int, asBl_bl, asLst_l, asRef_r, asL_l, asStr_s, asExn_e, List.set_cons_zero, List.set_cons_succ, List.getElem?_cons_zero, List.getElem?_cons_succ, List.length_cons, List.length_nil, List.nil_append, List.cons_append, List.append_nil, List.getElem?_set_self, List.length_set, List.set_set, p_dzip, p_putA, asIns_i, tn_non, tn_bl, tn_int, tn_str, tn_tup, tn_lst, tn_dK, tn_ins, asTn_ty, asTn_glo, tru_bl, tru_non, tru_int, tru_lst, tru_tup, truP_bl, truP_non, truP_int, truP_lst, truP_tup, isNon_non, isNon_int, isNon_tup, isNon_lst, isNon_str, isNon_ins, seqD_tup, seqD_lst, insOf_ins, atI_0, atI_1, atI_2, atI_3, atI_4, ixN_0, ixN_1, ixN_2, ixN_3, ixN_4]
  obtain ⟨t, ht, t1, t2⟩ : ∃ t : Int, t = (if (if m < ((ns.map DV.D.int).length : Int) then m else ((ns.map DV.D.int).length : Int)) > 2 then (if m < ((ns.map DV.D.int).length : Int) then m else ((ns.map DV.D.int).length : Int)) else 2) ∧ 0 ≤ t ∧ t < 100 := ⟨_, rfl, by split <;> (try split) <;> omega, by split <;> (try split) <;> omega⟩
  rw [← ht]
  refine ⟨⟨by omega, by omega⟩, ?_⟩
  refine lc_inv (fun ds acc st' => (∀ d ∈ ds, ∃ z : Int, d = .int z ∧ 0 ≤ z ∧ z < 100) ∧ acc.length + ds.length < 1000 ∧ ∃ ls : List Nat, acc = ls.map .ref ∧ ls.Nodup ∧ ∀ l ∈ ls, l < st'.length ∧ Pool 0 st' l) ?_ ?_ _ _ _ ⟨?_, ?_, [], rfl, List.nodup_nil, fun l hl => by cases hl⟩
  · rintro d ds acc st' ⟨a1, a2, ls, rfl, a3, a4⟩
    obtain ⟨z, rfl, z1, z2⟩ := a1 d (List.mem_cons_self ..)
    show R.tx _ _ _
    rw [denT_nop]
    try simp only [w_var, w_int, w_bl, w_non, w_str, w_gl, w_ty, w_bin, w_un, w_cmp, w_chain, w_and, w_or, w_not, w_ife, ev_nil, ev_cons, w_tup, w_lst, w_lstM, w_ix, part_nop, w_sl, w_bi, w_call, w_callS, w_meth, w_op, w_attr, w_app, w_idx, w_dzip, w_lc, w_lcM, w_tru, w_nott, w_andt, w_ort, i_itv, i_rng1, i_rng2, i_enm, b_nil, b_cons, s_exp, s_doc, s_pass, s_brk, s_cont, s_never, s_set, s_asg, g_var, g_sub, g_tup, gs_nil, gs_cons, s_par, s_ret, s_retF, s_retN, s_ite, s_for, for_nil, s_attr, w_prp, w_dun, w_fmt, w_fst, js_nil, js_cons, w_xisi, s_raise0, s_par3, p_add, p_addS, p_addT, p_addL, p_addB, p_sub, p_mul, p_mulL, p_fdiv, p_mod, p_pow, p_neg, p_eqI, p_neI, p_eqS, p_neS, p_eqB, p_lt, p_le, p_gt, p_ge, p_isN, p_isNN, p_isB, p_isNB, p_inT, p_ninT, p_ninK, p_ixL, p_ixT, p_ixK, p_ixG, p_ixR, p_put, p_slL, p_slT, p_lenL, p_lenT, p_lenS, p_intI, p_abs, p_max, p_min, p_divmod, p_tupT, p_tupL, p_tupR, p_all, p_any, p_repr, p_isi, p_app, p_idx, p_itL, p_itT, p_rng1, p_rng2, p_enmT, p_enmL, p_fmtS, p_fmtI, p_dlenI, p_dreprI, p_dboolI, p_dlenL, p_dlenT, p_dlenS, p_dreprL, p_dreprT, p_dreprS, p_dreprN, p_dreprB, p_dreprO, p_dboolN, p_dboolB, p_dboolL, p_strI, p_strS, oto_some, slTo_v, tst_bl, asInt_int, asBl_bl, asLst_l, asRef_r, asL_l, asStr_s, asExn_e, List.set_cons_zero, List.set_cons_succ, List.getElem?_cons_zero, List.getElem?_cons_succ, List.length_cons, List.length_nil, List.nil_append, List.cons_append, List.append_nil, Tgd.set, wipeD, List.getElem?_set_self, List.length_set, List.set_set, p_dzip, p_putA, asIns_i, tn_non, tn_bl, tn_int, tn_str, tn_tup, tn_lst, tn_dK, tn_ins, asTn_ty, asTn_glo, tru_bl, tru_non, tru_int, tru_lst, tru_tup, truP_bl, truP_non, truP_int, truP_lst, truP_tup, isNon_non, isNon_int, isNon_tup, isNon_lst, isNon_str, isNon_ins, seqD_tup, seqD_lst, insOf_ins, atI_0, atI_1, atI_2, atI_3, atI_4, ixN_0, ixN_1, ixN_2, ixN_3, ixN_4]
    refine ⟨fun _ => ?_, fun q => by cases q⟩
    refine ⟨True.intro, R.to_mono (cell z1 z2) ?_⟩
    rintro _ st1 ⟨⟨v, rfl⟩, e1⟩
    have e1 := e1.symm
    subst e1
    try simp only [w_var, w_int, w_bl, w_non, w_str, w_gl, w_ty, w_bin, w_un, w_cmp, w_chain, w_and, w_or, w_not, w_ife, ev_nil, ev_cons, w_tup, w_lst, w_lstM, w_ix, part_nop, w_sl, w_bi, w_call, w_callS, w_meth, w_op, w_attr, w_app, w_idx, w_dzip, w_lc, w_lcM, w_tru, w_nott, w_andt, w_ort, i_itv, i_rng1, i_rng2, i_enm, b_nil, b_cons, s_exp, s_doc, s_pass, s_brk, s_cont, s_never, s_set, s_asg, g_var, g_sub, g_tup, gs_nil, gs_cons, s_par, s_ret, s_retF, s_retN, s_ite, s_for, for_nil, s_attr, w_prp, w_dun, w_fmt, w_fst, js_nil, js_cons, w_xisi, s_raise0, s_par3, p_add, p_addS, p_addT, p_addL, p_addB, p_sub, p_mul, p_mulL, p_fdiv, p_mod, p_pow, p_neg, p_eqI, p_neI, p_eqS, p_neS, p_eqB, p_lt, p_le, p_gt, p_ge, p_isN, p_isNN, p_isB, p_isNB, p_inT, p_ninT, p_ninK, p_ixL, p_ixT, p_ixK, p_ixG, p_ixR, p_put, p_slL, p_slT, p_lenL, p_lenT, p_lenS, p_intI, p_abs, p_max, p_min, p_divmod, p_tupT, p_tupL, p_tupR, p_all, p_any, p_repr, p_isi, p_app, p_idx, p_itL, p_itT, p_rng1, p_rng2, p_enmT, p_enmL, p_fmtS, p_fmtI, p_dlenI, p_dreprI, p_dboolI, p_dlenL, p_dlenT, p_dlenS, p_dreprL, p_dreprT, p_dreprS, p_dreprN, p_dreprB, p_dreprO, p_dboolN, p_dboolB, p_dboolL, p_strI, p_strS, oto_some, slTo_v, tst_bl, asInt_int, asBl_bl, asLst_l, asRef_r, asL_l, asStr_s, asExn_e, List.set_cons_zero, List.set_cons_succ, List.getElem?_cons_zero, List.getElem?_cons_succ, List.length_cons, List.length_nil, List.nil_append, List.cons_append, List.append_nil, List.getElem?_set_self, List.length_set, List.set_set, p_dzip, p_putA, asIns_i, tn_non, tn_bl, tn_int, tn_str, tn_tup, tn_lst, tn_dK, tn_ins, asTn_ty, asTn_glo, tru_bl, tru_non, tru_int, tru_lst, tru_tup, truP_bl, truP_non, truP_int, truP_lst, truP_tup, isNon_non, isNon_int, isNon_tup, isNon_lst, isNon_str, isNon_ins, seqD_tup, seqD_lst, insOf_ins, atI_0, atI_1, atI_2, atI_3, atI_4, ixN_0, ixN_1, ixN_2, ixN_3, ixN_4]
    refine ⟨True.intro, R.to_mono pool ?_⟩
    rintro _ st2 ⟨rfl, o, rfl, hp⟩
    have f := FrA.app st' [o]
    refine ⟨?_, fun d hd => a1 d (List.mem_cons_of_mem _ hd), by simp at a2 ⊢; omega, ls ++ [st'.length], by simp, ?_, ?_⟩
    · simp at a2 ⊢
      exact Nat.lt_of_lt_of_le (show ls.length < 1000 by omega) (by decide)
    · refine List.nodup_append.mpr ⟨a3, by simp, ?_⟩
      intro a ha b hb e
      have hb : b = st'.length := by simpa using hb
      have := (a4 a ha).1
      omega
    · intro l hl
      rcases List.mem_append.mp hl with hl | hl
      · exact ⟨by have := (a4 l hl).1; simp; omega, (a4 l hl).2.fr f⟩
      · have e : l = st'.length := by simpa using hl
        subst e
        exact ⟨by simp, hp⟩
  · rintro acc st' ⟨_, a2, ls, rfl, a3, a4⟩
    try simp only [w_var, w_int, w_bl, w_non, w_str, w_gl, w_ty, w_bin, w_un, w_cmp, w_chain, w_and, w_or, w_not, w_ife, ev_nil, ev_cons, w_tup, w_lst, w_lstM, w_ix, part_nop, w_sl, w_bi, w_call, w_callS, w_meth, w_op, w_attr, w_app, w_idx, w_dzip, w_lc, w_lcM, w_tru, w_nott, w_andt, w_ort, i_itv, i_rng1, i_rng2, i_enm, b_nil, b_cons, s_exp, s_doc, s_pass, s_brk, s_cont, s_never, s_set, s_asg, g_var, g_sub, g_tup, gs_nil, gs_cons, s_par, s_ret, s_retF, s_retN, s_ite, s_for, for_nil, s_attr, w_prp, w_dun, w_fmt, w_fst, js_nil, js_cons, w_xisi, s_raise0, s_par3, p_add, p_addS, p_addT, p_addL, p_addB, p_sub, p_mul, p_mulL, p_fdiv, p_mod, p_pow, p_neg, p_eqI, p_neI, p_eqS, p_neS, p_eqB, p_lt, p_le, p_gt, p_ge, p_isN, p_isNN, p_isB, p_isNB, p_inT, p_ninT, p_ninK, p_ixL, p_ixT, p_ixK, p_ixG, p_ixR, p_put, p_slL, p_slT, p_lenL, p_lenT, p_lenS, p_intI, p_abs, p_max, p_min, p_divmod, p_tupT, p_tupL, p_tupR, p_all, p_any, p_repr, p_isi, p_app, p_idx, p_itL, p_itT, p_rng1, p_rng2, p_enmT, p_enmL, p_fmtS, p_fmtI, p_dlenI, p_dreprI, p_dboolI, p_dlenL, p_dlenT, p_dlenS, p_dreprL, p_dreprT, p_dreprS, p_dreprN, p_dreprB, p_dreprO, p_dboolN, p_dboolB, p_dboolL, p_strI, p_strS, oto_some, slTo_v, tst_bl, asInt_int, asBl_bl, asLst_l, asRef_r, asL_l, asStr_s, asExn_e, List.set_cons_zero, List.set_cons_succ, List.getElem?_cons_zero, List.getElem?_cons_succ, List.length_cons, List.length_nil, List.nil_append, List.cons_append, List.append_nil, List.getElem?_set_self, List.length_set, List.set_set, p_dzip, p_putA, asIns_i, tn_non, tn_bl, tn_int, tn_str, tn_tup, tn_lst, tn_dK, tn_ins, asTn_ty, asTn_glo, tru_bl, tru_non, tru_int, tru_lst, tru_tup, truP_bl, truP_non, truP_int, truP_lst, truP_tup, isNon_non, isNon_int, isNon_tup, isNon_lst, isNon_str, isNon_ins, seqD_tup, seqD_lst, insOf_ins, atI_0, atI_1, atI_2, atI_3, atI_4, ixN_0, ixN_1, ixN_2, ixN_3, ixN_4]
    exact ⟨_, rfl, ls, rfl, a3, fun l hl => (a4 l hl).2, by simpa using a2⟩
  · intro d hd
    unfold rng at hd
    obtain ⟨i, hi, e⟩ := List.mem_map.mp hd
    have := List.mem_range.mp hi
    exact ⟨_, e.symm, by omega, by omega⟩
  · unfold rng
    simp
    omega
end K22

namespace SP
/-! tables of bounds between five points -/
abbrev Fc := Nat × Nat × Int
abbrev Tab := Nat → Nat → Option Int
def Le (a : Option Int) (b : Int) : Prop := ∃ v, a = some v ∧ v ≤ b
theorem Le.mono {a : Option Int} {b c : Int} (h : Le a b) (l : b ≤ c) : Le a c := let ⟨v, e, q⟩ := h; ⟨v, e, by omega⟩
inductive Walk (fs : List Fc) : Nat → Nat → Int → Nat → Prop
  | nil (x : Nat) : Walk fs x x 0 0
  | cons {x y z : Nat} {b w : Int} {n : Nat} : (x, y, b) ∈ fs → Walk fs y z w n → Walk fs x z (b + w) (n + 1)
theorem Walk.mono {fs gs : List Fc} (h : ∀ f ∈ fs, f ∈ gs) {x y : Nat} {w : Int} {n : Nat} (k : Walk fs x y w n) : Walk gs x y w n := by
  induction k with
  | nil x => exact .nil x
  | cons hf _ ih => exact .cons (h _ hf) ih
theorem Walk.append {fs : List Fc} {x y z : Nat} {w v : Int} {n m : Nat} (k : Walk fs x y w n) (l : Walk fs y z v m) : Walk fs x z (w + v) (n + m) := by
  induction k with
  | nil x => rw [Int.zero_add, Nat.zero_add]; exact l
  | cons hf _ ih =>
    have := Walk.cons hf (ih l)
    rw [← Int.add_assoc] at this
    rw [show ∀ n : Nat, n + 1 + m = n + m + 1 by intro n; omega]
    exact this
/-- hidden integers for which all facts hold -/
def Hid (h : Nat → Int) (fs : List Fc) : Prop := ∀ f ∈ fs, h f.1 ≤ h f.2.1 + f.2.2
theorem Walk.hid {h : Nat → Int} {fs : List Fc} (hf : Hid h fs) {x y : Nat} {w : Int} {n : Nat} (k : Walk fs x y w n) : h x ≤ h y + w := by
  induction k with
  | nil x => omega
  | cons hm _ ih =>
    have := hf _ hm
    simp only at this
    omega
def Closed (t : Tab) : Prop := (∀ x, x < 5 → t x x = some 0) ∧ ∀ x y z, x < 5 → y < 5 → z < 5 → ∀ a b, t x y = some a → t y z = some b → Le (t x z) (a + b)
def Covers (fs : List Fc) (t : Tab) : Prop := ∀ f ∈ fs, Le (t f.1 f.2.1) f.2.2
def Sound (fs : List Fc) (t : Tab) : Prop := ∀ x y, x < 5 → y < 5 → ∀ v, t x y = some v → ∃ n, Walk fs x y v n
def Ins (fs : List Fc) : Prop := ∀ f ∈ fs, f.1 < 5 ∧ f.2.1 < 5
def free : Tab := fun x y => if x = y then some 0 else none
def lb (o : Option Int) (lead : Int) (l : Option Int) : Option Int := match l with
  | none => o
  | some b => match o with
    | none => some (lead + b)
    | some a => if a ≤ lead + b then some a else some (lead + b)
def upd (t : Tab) (x y : Nat) (b : Int) : Tab := fun r c => match t r x with
  | none => t r c
  | some a => lb (t r c) (a + b) (t y c)
/-- the program's step; none: the facts are torn -/
def step (t : Tab) (x y : Nat) (b : Int) : Option Tab := match t y x with
  | some v => if v + b < 0 then none else (match t x y with
    | some u => if u ≤ b then some t else some (upd t x y b)
    | none => some (upd t x y b))
  | none => (match t x y with
    | some u => if u ≤ b then some t else some (upd t x y b)
    | none => some (upd t x y b))
theorem lb_of {o l : Option Int} {lead v : Int} (h : lb o lead l = some v) : o = some v ∨ ∃ b, l = some b ∧ v = lead + b := by
  unfold lb at h
  cases l with
  | none => exact .inl h
  | some b =>
    cases o with
    | none => exact .inr ⟨b, rfl, (Option.some.inj h).symm⟩
    | some a =>
      dsimp only at h
      split at h
      · exact .inl h
      · exact .inr ⟨b, rfl, (Option.some.inj h).symm⟩
theorem lb_left {o l : Option Int} {lead v : Int} (h : o = some v) : Le (lb o lead l) v := by
  subst h
  unfold lb
  cases l with
  | none => exact ⟨v, rfl, Int.le_refl _⟩
  | some b =>
    dsimp only
    split
    · exact ⟨v, rfl, Int.le_refl _⟩
    · exact ⟨_, rfl, by omega⟩
theorem lb_right {o l : Option Int} {lead b : Int} (h : l = some b) : Le (lb o lead l) (lead + b) := by
  subst h
  unfold lb
  cases o with
  | none => exact ⟨_, rfl, Int.le_refl _⟩
  | some a =>
    dsimp only
    split
    · exact ⟨_, rfl, by omega⟩
    · exact ⟨_, rfl, Int.le_refl _⟩
section
variable {t : Tab} {x y : Nat} {b : Int}
theorem upd_of {r c : Nat} {v : Int} (h : upd t x y b r c = some v) : t r c = some v ∨ ∃ p q, t r x = some p ∧ t y c = some q ∧ v = p + b + q := by
  unfold upd at h
  cases e : t r x with
  | none => rw [e] at h; exact .inl h
  | some p =>
    rw [e] at h
    rcases lb_of h with h | ⟨q, h1, h2⟩
    · exact .inl h
    · exact .inr ⟨p, q, rfl, h1, h2⟩
theorem upd_left {r c : Nat} {v : Int} (h : t r c = some v) : Le (upd t x y b r c) v := by
  unfold upd
  cases t r x with
  | none => exact ⟨v, h, Int.le_refl _⟩
  | some p => exact lb_left h
theorem upd_right {r c : Nat} {p q : Int} (h : t r x = some p) (h2 : t y c = some q) : Le (upd t x y b r c) (p + b + q) := by
  unfold upd
  rw [h]
  exact lb_right h2
theorem closed_upd (hc : Closed t) (hx : x < 5) (hy : y < 5) (hn : ∀ v, t y x = some v → 0 ≤ v + b) : Closed (upd t x y b) := by
  -- a way through the new fact and back is no shorter
  have back : ∀ m, m < 5 → ∀ p q, t y m = some p → t m x = some q → 0 ≤ p + q + b := fun m hm p q h1 h2 => by
    obtain ⟨v, e, l⟩ := hc.2 y m x hy hm hx p q h1 h2
    have := hn v e
    omega
  refine ⟨fun r hr => ?_, fun r m c hr hm hcc p q h1 h2 => ?_⟩
  · obtain ⟨v, e, l⟩ := upd_left (x := x) (y := y) (b := b) (hc.1 r hr)
    rcases upd_of e with h | ⟨p, q, g1, g2, g3⟩
    · rw [hc.1 r hr] at h
      rw [e, ← h]
    · have := back r hr q p g2 g1
      rw [e]
      congr 1
      omega
  · rcases upd_of h1 with g | ⟨p1, p2, g1, g2, g3⟩ <;> rcases upd_of h2 with k | ⟨q1, q2, k1, k2, k3⟩
    · obtain ⟨v, e, l⟩ := hc.2 r m c hr hm hcc p q g k
      exact (upd_left e).mono l
    · obtain ⟨v, e, l⟩ := hc.2 r m x hr hm hx p q1 g k1
      exact (upd_right e k2).mono (by omega)
    · obtain ⟨v, e, l⟩ := hc.2 y m c hy hm hcc p2 q g2 k
      exact (upd_right g1 e).mono (by omega)
    · have := back m hm p2 q1 g2 k1
      exact (upd_right g1 k2).mono (by omega)
theorem sound_upd {fs : List Fc} (hs : Sound fs t) (hx : x < 5) (hy : y < 5) : Sound (fs ++ [(x, y, b)]) (upd t x y b) := fun r c hr hc v h => by
  have up : ∀ {r c : Nat} {w : Int} {n : Nat}, Walk fs r c w n → Walk (fs ++ [(x, y, b)]) r c w n := fun k => k.mono fun f hf => List.mem_append_left _ hf
  rcases upd_of h with h | ⟨p, q, h1, h2, h3⟩
  · obtain ⟨n, k⟩ := hs r c hr hc v h
    exact ⟨n, up k⟩
  · obtain ⟨n, k⟩ := hs r x hr hx p h1
    obtain ⟨m, l⟩ := hs y c hy hc q h2
    have e : Walk (fs ++ [(x, y, b)]) x c (b + q) (m + 1) := .cons (List.mem_append_right _ (List.mem_singleton.mpr rfl)) (up l)
    have := (up k).append e
    rw [show v = p + (b + q) by omega]
    exact ⟨_, this⟩
theorem covers_upd {fs : List Fc} (hc : Closed t) (hv : Covers fs t) (hx : x < 5) (hy : y < 5) : Covers (fs ++ [(x, y, b)]) (upd t x y b) := fun f hf => by
  rcases List.mem_append.mp hf with hf | hf
  · obtain ⟨v, e, l⟩ := hv f hf
    exact (upd_left e).mono l
  · have e : f = (x, y, b) := List.mem_singleton.mp hf
    subst e
    exact (upd_right (hc.1 x hx) (hc.1 y hy)).mono (by simp)
end
/-- all that a table says of its facts -/
structure Good (fs : List Fc) (t : Tab) : Prop where
  cl : Closed t
  cv : Covers fs t
  so : Sound fs t
theorem good_free : Good [] free := by
  refine ⟨⟨fun x _ => if_pos rfl, fun x y z _ _ _ a b h1 h2 => ?_⟩, fun f hf => (by cases hf), fun x y _ _ v h => ?_⟩
  · unfold free at h1 h2 ⊢
    split at h1 <;> split at h2 <;> simp_all [Le]
    omega
  · unfold free at h
    split at h
    · rename_i e
      subst e
      cases h
      exact ⟨0, .nil x⟩
    · cases h
theorem good_step {fs : List Fc} {t t' : Tab} {x y : Nat} {b : Int} (g : Good fs t) (hx : x < 5) (hy : y < 5) (h : step t x y b = some t') : Good (fs ++ [(x, y, b)]) t' := by
  have main : (∀ v, t y x = some v → 0 ≤ v + b) → (match t x y with
      | some u => if u ≤ b then some t else some (upd t x y b)
      | none => some (upd t x y b)) = some t' → Good (fs ++ [(x, y, b)]) t' := fun hn h => by
    have new : Good (fs ++ [(x, y, b)]) (upd t x y b) := ⟨closed_upd g.cl hx hy hn, covers_upd g.cl g.cv hx hy, sound_upd g.so hx hy⟩
    split at h
    · rename_i u e
      split at h
      · rename_i l
        cases h
        refine ⟨g.cl, fun f hf => ?_, fun r c hr hc v q => ?_⟩
        · rcases List.mem_append.mp hf with hf | hf
          · exact g.cv f hf
          · have e2 : f = (x, y, b) := List.mem_singleton.mp hf
            subst e2
            exact ⟨u, e, l⟩
        · obtain ⟨n, k⟩ := g.so r c hr hc v q
          exact ⟨n, k.mono fun f hf => List.mem_append_left _ hf⟩
      · cases h; exact new
    · cases h; exact new
  unfold step at h
  split at h
  · rename_i v e
    split at h
    · cases h
    · rename_i l
      exact main (fun w q => by rw [e] at q; cases q; omega) h
  · rename_i e
    exact main (fun w q => by rw [e] at q; cases q) h
/-- with hidden integers nothing is refused -/
theorem step_hid {fs : List Fc} {t : Tab} {x y : Nat} {b : Int} {h : Nat → Int} (g : Good fs t) (hx : x < 5) (hy : y < 5) (hf : Hid h (fs ++ [(x, y, b)])) : ∃ t', step t x y b = some t' := by
  unfold step
  split
  · rename_i v e
    obtain ⟨n, k⟩ := g.so y x hy hx v e
    have h1 := k.hid (fun f hm => hf f (List.mem_append_left _ hm))
    have h2 := hf (x, y, b) (List.mem_append_right _ (List.mem_singleton.mpr rfl))
    simp only at h2
    rw [if_neg (by omega)]
    split
    · split <;> exact ⟨_, rfl⟩
    · exact ⟨_, rfl⟩
  · split
    · split <;> exact ⟨_, rfl⟩
    · exact ⟨_, rfl⟩
/-- each walk is bounded by a closed table that covers its facts -/
theorem good_walk {fs : List Fc} {t : Tab} (hc : Closed t) (hv : Covers fs t) (hi : Ins fs) {x z : Nat} {w : Int} {n : Nat} (k : Walk fs x z w n) (hz : z < 5) : x < 5 ∧ Le (t x z) w := by
  induction k with
  | nil x => exact ⟨hz, 0, hc.1 x hz, Int.le_refl _⟩
  | cons hm _ ih =>
    obtain ⟨hy, v, e, l⟩ := ih hz
    obtain ⟨u, e2, l2⟩ := hv _ hm
    have hx := (hi _ hm).1
    obtain ⟨p, e3, l3⟩ := hc.2 _ _ _ hx hy hz u v e2 e
    exact ⟨hx, p, e3, by simp only at l2; omega⟩
end SP

namespace SP
/-! walks by their points -/
inductive WalkL (fs : List Fc) : Nat → Nat → Int → List Nat → Prop
  | nil (x : Nat) : WalkL fs x x 0 [x]
  | cons {x y z : Nat} {b w : Int} {vs : List Nat} : (x, y, b) ∈ fs → WalkL fs y z w vs → WalkL fs x z (b + w) (x :: vs)
theorem Walk.toL {fs : List Fc} {x y : Nat} {w : Int} {n : Nat} (k : Walk fs x y w n) : ∃ vs, WalkL fs x y w vs := by
  induction k with
  | nil x => exact ⟨_, .nil x⟩
  | cons hf _ ih =>
    obtain ⟨vs, k⟩ := ih
    exact ⟨_, .cons hf k⟩
theorem WalkL.toW {fs : List Fc} {x y : Nat} {w : Int} {vs : List Nat} (k : WalkL fs x y w vs) : Walk fs x y w (vs.length - 1) ∧ 0 < vs.length := by
  induction k with
  | nil x => exact ⟨.nil x, Nat.one_pos⟩
  | cons hf k ih =>
    rename_i x y z b w vs
    have := Walk.cons hf ih.1
    have e : vs.length - 1 + 1 = vs.length := by have := ih.2; omega
    rw [e] at this
    exact ⟨this, Nat.succ_pos _⟩
theorem WalkL.lt {fs : List Fc} (hi : Ins fs) {x y : Nat} {w : Int} {vs : List Nat} (k : WalkL fs x y w vs) (hy : y < 5) : ∀ v ∈ vs, v < 5 := by
  induction k with
  | nil x =>
    intro v hv
    rw [List.mem_singleton.mp hv]
    exact hy
  | cons hf _ ih =>
    intro v hv
    rcases List.mem_cons.mp hv with e | hv
    · rw [e]; exact (hi _ hf).1
    · exact ih hy v hv
theorem WalkL.suffix {fs : List Fc} {h : Nat → Int} (hf : Hid h fs) {x y z : Nat} {w : Int} {vs : List Nat} (k : WalkL fs y z w vs) (hx : x ∈ vs) : ∃ v us, WalkL fs x z v us ∧ h y ≤ h x + (w - v) ∧ ∃ ps, vs = ps ++ us := by
  induction k with
  | nil y =>
    rw [List.mem_singleton.mp hx]
    exact ⟨0, [y], .nil y, by omega, [], rfl⟩
  | cons hm k ih =>
    rename_i y y' z b w vs
    rcases List.mem_cons.mp hx with e | hx
    · rw [e]
      exact ⟨_, _, .cons hm k, by omega, [], rfl⟩
    · obtain ⟨v, us, k2, l, ps, e⟩ := ih hx
      have := hf _ hm
      simp only at this
      exact ⟨v, us, k2, by omega, y :: ps, by rw [e]; rfl⟩
/-- no point twice -/
theorem WalkL.cut {fs : List Fc} {h : Nat → Int} (hf : Hid h fs) {x z : Nat} {w : Int} {vs : List Nat} (k : WalkL fs x z w vs) : ∃ v us, WalkL fs x z v us ∧ v ≤ w ∧ us.Nodup := by
  induction k with
  | nil x => exact ⟨0, [x], .nil x, Int.le_refl _, by simp⟩
  | cons hm k0 ih =>
    rename_i x y z b w vs
    obtain ⟨v, us, k, l, nd⟩ := ih
    have := hf _ hm
    simp only at this
    by_cases hx : x ∈ us
    · obtain ⟨v2, us2, k2, l2, ps, e⟩ := k.suffix hf hx
      exact ⟨v2, us2, k2, by omega, by rw [e] at nd; exact (List.nodup_append.mp nd).2.1⟩
    · exact ⟨_, _, .cons hm k, by omega, List.nodup_cons.mpr ⟨hx, nd⟩⟩
theorem nodup_lt : ∀ (n : Nat) (l : List Nat), l.Nodup → (∀ v ∈ l, v < n) → l.length ≤ n
  | 0, [], _, _ => Nat.le_refl _
  | 0, a :: l, _, h => absurd (h a (List.mem_cons_self ..)) (Nat.not_lt_zero _)
  | n + 1, l, nd, h => by
    have ih := nodup_lt n (l.erase n) (nd.erase n) fun v hv => by
      have h1 := h v (List.mem_of_mem_erase hv)
      have h2 : v ≠ n := ((nd.mem_erase_iff).mp hv).1
      omega
    by_cases z : n ∈ l
    · rw [List.length_erase_of_mem z] at ih
      omega
    · rw [List.erase_of_not_mem z] at ih
      omega
/-- a walk of at most four facts is as short -/
theorem Walk.short {fs : List Fc} {h : Nat → Int} (hf : Hid h fs) (hi : Ins fs) {x z : Nat} {w : Int} {n : Nat} (k : Walk fs x z w n) (hz : z < 5) : ∃ v m, Walk fs x z v m ∧ v ≤ w ∧ m ≤ 4 := by
  obtain ⟨vs, k⟩ := k.toL
  obtain ⟨v, us, k, l, nd⟩ := k.cut hf
  have h1 := nodup_lt 5 us nd (k.lt hi hz)
  obtain ⟨k2, h2⟩ := k.toW
  exact ⟨v, _, k2, l, by omega⟩
/-- no entry exceeds a walk of at most k facts -/
def Upto (fs : List Fc) (k : Nat) (t : Tab) : Prop := ∀ x z w n, x < 5 → z < 5 → Walk fs x z w n → n ≤ k → Le (t x z) w
def Mono (t u : Tab) : Prop := ∀ x z v, t x z = some v → Le (u x z) v
theorem Mono.refl (t : Tab) : Mono t t := fun x z v h => ⟨v, h, Int.le_refl _⟩
theorem Mono.trans {t u v : Tab} (a : Mono t u) (b : Mono u v) : Mono t v := fun x z w h => by
  obtain ⟨p, e, l⟩ := a x z w h
  exact (b x z p e).mono l
theorem upto_free (fs : List Fc) : Upto fs 0 free := fun x z w n hx hz k hn => by
  cases k with
  | nil => exact ⟨0, if_pos rfl, Int.le_refl _⟩
  | cons hf _ => omega
/-- a round of the law -/
theorem upto_round {fs : List Fc} {k : Nat} {t u : Tab} (hi : Ins fs) (h : Upto fs k t) (m : Mono t u) (r : ∀ f ∈ fs, ∀ z, z < 5 → ∀ v, t f.2.1 z = some v → Le (u f.1 z) (f.2.2 + v)) : Upto fs (k + 1) u := fun x z w n hx hz q hn => by
  cases q with
  | nil =>
    obtain ⟨v, e, l⟩ := h x x 0 0 hx hx (.nil x) (Nat.zero_le _)
    exact (m x x v e).mono l
  | cons hf q =>
    rename_i y b w n
    obtain ⟨v, e, l⟩ := h y z w n (hi _ hf).2 hz q (by omega)
    have := r _ hf z hz v e
    simp only at this
    exact this.mono (by omega)
/-- both tables are one -/
theorem same {fs : List Fc} {h : Nat → Int} {t u : Tab} (hf : Hid h fs) (hi : Ins fs) (g : Good fs t) (su : Sound fs u) (up : Upto fs 4 u) {x z : Nat} (hx : x < 5) (hz : z < 5) : u x z = t x z := by
  cases e : u x z with
  | some v =>
    obtain ⟨n, k⟩ := su x z hx hz v e
    obtain ⟨_, p, e2, l⟩ := good_walk g.cl g.cv hi k hz
    obtain ⟨m, k2⟩ := g.so x z hx hz p e2
    obtain ⟨v2, m2, k3, l3, l4⟩ := k2.short hf hi hz
    obtain ⟨q, e3, l5⟩ := up x z v2 m2 hx hz k3 l4
    rw [e] at e3
    cases e3
    rw [e2]
    congr 1
    omega
  | none =>
    cases e2 : t x z with
    | none => rfl
    | some p =>
      obtain ⟨m, k2⟩ := g.so x z hx hz p e2
      obtain ⟨v2, m2, k3, l3, l4⟩ := k2.short hf hi hz
      obtain ⟨q, e3, l5⟩ := up x z v2 m2 hx hz k3 l4
      rw [e] at e3
      cases e3
end SP

namespace SP
/-! the law's table -/
def put (t : Tab) (x y : Nat) (b : Int) (z : Nat) : Tab := fun r c => if r = x ∧ c = z then lb (t x z) b (t y z) else t r c
theorem put_at (t : Tab) (x y : Nat) (b : Int) (z : Nat) : put t x y b z x z = lb (t x z) b (t y z) := if_pos ⟨rfl, rfl⟩
theorem put_mono (t : Tab) (x y : Nat) (b : Int) (z : Nat) : Mono t (put t x y b z) := fun r c v h => by
  unfold put
  split
  · rename_i e
    obtain ⟨rfl, rfl⟩ := e
    exact lb_left h
  · exact ⟨v, h, Int.le_refl _⟩
theorem put_sound {fs : List Fc} {t : Tab} {x y : Nat} {b : Int} {z : Nat} (hs : Sound fs t) (hm : (x, y, b) ∈ fs) (hy : y < 5) : Sound fs (put t x y b z) := fun r c hr hc v h => by
  unfold put at h
  split at h
  · rename_i e
    obtain ⟨rfl, rfl⟩ := e
    rcases lb_of h with h | ⟨q, h1, h2⟩
    · exact hs r c hr hc v h
    · obtain ⟨n, k⟩ := hs y c hy hc q h1
      exact ⟨n + 1, h2 ▸ .cons hm k⟩
  · exact hs r c hr hc v h
theorem sound_free (fs : List Fc) : Sound fs free := fun x y _ _ v h => by
  unfold free at h
  split at h
  · rename_i e
    subst e
    cases h
    exact ⟨0, .nil x⟩
  · cases h
/-- within a round: what came before -/
structure Rd (fs : List Fc) (t0 : Tab) (gs : List Fc) (u : Tab) : Prop where
  mo : Mono t0 u
  so : Sound fs u
  ro : ∀ f ∈ gs, ∀ z, z < 5 → ∀ v, t0 f.2.1 z = some v → Le (u f.1 z) (f.2.2 + v)
structure Rz (fs : List Fc) (t0 : Tab) (gs : List Fc) (f : Fc) (zs : List Nat) (u : Tab) : Prop where
  rd : Rd fs t0 gs u
  rz : ∀ z ∈ zs, ∀ v, t0 f.2.1 z = some v → Le (u f.1 z) (f.2.2 + v)
theorem Rz.put {fs gs : List Fc} {t0 u : Tab} {f : Fc} {zs : List Nat} {z : Nat} (h : Rz fs t0 gs f zs u) (hm : f ∈ fs) (hi : Ins fs) : Rz fs t0 gs f (zs ++ [z]) (SP.put u f.1 f.2.1 f.2.2 z) := by
  have m := put_mono u f.1 f.2.1 f.2.2 z
  have up : ∀ {x z : Nat} {b : Int}, Le (u x z) b → Le (SP.put u f.1 f.2.1 f.2.2 z x z) b → True := fun _ _ => True.intro
  refine ⟨⟨h.rd.mo.trans m, put_sound h.rd.so (by obtain ⟨a, b, c⟩ := f; exact hm) (hi f hm).2, fun g hg z' hz v e => ?_⟩, fun z' hz v e => ?_⟩
  · obtain ⟨p, e2, l⟩ := h.rd.ro g hg z' hz v e
    exact (m _ _ p e2).mono l
  · rcases List.mem_append.mp hz with hz | hz
    · obtain ⟨p, e2, l⟩ := h.rz z' hz v e
      exact (m _ _ p e2).mono l
    · have : z' = z := by simpa using hz
      subst this
      rw [put_at]
      obtain ⟨p, e2, l⟩ := h.rd.mo _ _ v e
      exact (lb_right e2).mono (by omega)
theorem Rd.start {fs : List Fc} {t0 : Tab} (h : Sound fs t0) : Rd fs t0 [] t0 := ⟨.refl _, h, fun f hf => by cases hf⟩
theorem Rz.start {fs gs : List Fc} {t0 u : Tab} {f : Fc} (h : Rd fs t0 gs u) : Rz fs t0 gs f [] u := ⟨h, fun f hf => by cases hf⟩
theorem Rz.fin {fs gs : List Fc} {t0 u : Tab} {f : Fc} (h : Rz fs t0 gs f (List.range 5) u) : Rd fs t0 (gs ++ [f]) u := ⟨h.rd.mo, h.rd.so, fun g hg z hz v e => by
  rcases List.mem_append.mp hg with hg | hg
  · exact h.rd.ro g hg z hz v e
  · have : g = f := by simpa using hg
    subst this
    exact h.rz z (List.mem_range.mpr hz) v e⟩
theorem Rd.fin {fs : List Fc} {t0 u : Tab} {k : Nat} (h : Rd fs t0 fs u) (hi : Ins fs) (up : Upto fs k t0) : Upto fs (k + 1) u ∧ Sound fs u := ⟨upto_round hi up h.mo h.ro, h.so⟩
theorem Upto.mono {fs : List Fc} {t : Tab} {k m : Nat} (h : Upto fs k t) (l : m ≤ k) : Upto fs m t := fun x z w n hx hz q hn => h x z w n hx hz q (by omega)
/-! several facts -/
def steps : Option Tab → List Fc → Option Tab
  | o, [] => o
  | none, _ :: fs => steps none fs
  | some t, f :: fs => steps (step t f.1 f.2.1 f.2.2) fs
theorem steps_none : ∀ fs, steps none fs = none
  | [] => rfl
  | _ :: fs => steps_none fs
theorem steps_good : ∀ (fs gs : List Fc) (t : Tab), Good gs t → Ins fs → ∀ t', steps (some t) fs = some t' → Good (gs ++ fs) t'
  | [], gs, t, g, _, t', h => by cases h; rw [List.append_nil]; exact g
  | f :: fs, gs, t, g, hi, t', h => by
    have h : steps (step t f.1 f.2.1 f.2.2) fs = some t' := h
    cases e : step t f.1 f.2.1 f.2.2 with
    | none => rw [e, steps_none] at h; cases h
    | some u =>
      rw [e] at h
      obtain ⟨hx, hy⟩ := hi f (List.mem_cons_self ..)
      have := steps_good fs _ u (good_step g hx hy e) (fun g hg => hi g (List.mem_cons_of_mem _ hg)) t' h
      rw [List.append_assoc] at this
      exact this
theorem steps_hid {h : Nat → Int} : ∀ (fs gs : List Fc) (t : Tab), Good gs t → Ins fs → Hid h (gs ++ fs) → ∃ t', steps (some t) fs = some t'
  | [], gs, t, g, _, _ => ⟨t, rfl⟩
  | f :: fs, gs, t, g, hi, hh => by
    obtain ⟨hx, hy⟩ := hi f (List.mem_cons_self ..)
    have hh2 : Hid h ((gs ++ [(f.1, f.2.1, f.2.2)]) ++ fs) := by rw [List.append_assoc]; exact hh
    obtain ⟨u, e⟩ := step_hid (b := f.2.2) g hx hy (fun q hq => hh2 q (List.mem_append_left _ hq))
    show ∃ t', steps (step t f.1 f.2.1 f.2.2) fs = some t'
    rw [e]
    exact steps_hid fs _ u (good_step g hx hy e) (fun g hg => hi g (List.mem_cons_of_mem _ hg)) hh2
/-- torn facts are refused -/
theorem steps_torn {fs : List Fc} (hi : Ins fs) {x n : Nat} {w : Int} (hx : x < 5) (k : Walk fs x x w n) (hw : w < 0) : steps (some free) fs = none := by
  cases e : steps (some free) fs with
  | none => rfl
  | some t =>
    have g := steps_good fs [] free good_free hi t e
    rw [List.nil_append] at g
    obtain ⟨_, v, e2, l⟩ := good_walk g.cl g.cv hi k hx
    rw [g.cl.1 x hx] at e2
    cases e2
    omega
end SP
namespace SP
/-! bounds -/
theorem Walk.le {fs : List Fc} {B : Int} (hb : ∀ f ∈ fs, f.2.2 ≤ B) {x y : Nat} {w : Int} {n : Nat} (k : Walk fs x y w n) : w ≤ n * B := by
  induction k with
  | nil x => simp
  | cons hm k ih =>
    have := hb _ hm
    simp only at this
    rw [Int.natCast_succ, Int.add_mul]
    omega
theorem bounded {fs : List Fc} {h : Nat → Int} {u : Tab} {B C : Int} (hf : Hid h fs) (hi : Ins fs) (hb : ∀ f ∈ fs, f.2.2 ≤ B) (h0 : 0 ≤ B) (hc : ∀ x, x < 5 → -C ≤ h x ∧ h x ≤ C) (su : Sound fs u) (up : Upto fs 4 u) {x z : Nat} (hx : x < 5) (hz : z < 5) {v : Int} (e : u x z = some v) : -(2 * C) ≤ v ∧ v ≤ 4 * B := by
  obtain ⟨n, k⟩ := su x z hx hz v e
  have h1 := k.hid hf
  have h2 := hc x hx
  have h3 := hc z hz
  obtain ⟨w, m, k2, l, lm⟩ := k.short hf hi hz
  obtain ⟨p, e2, l2⟩ := up x z w m hx hz k2 lm
  rw [e] at e2
  cases e2
  have h4 := k2.le hb
  have : (m : Int) * B ≤ 4 * B := Int.mul_le_mul_of_nonneg_right (by omega) h0
  omega
end SP

namespace K22
open PySem PySem.Spec PyProof.Rows L2 DV
/-! ### facts -/
def nm : Nat → Str
  | 0 => "front"
  | 1 => "length"
  | 2 => "first"
  | 3 => "second"
  | _ => "third"
abbrev Fc := Nat × Nat × Int
def fD (f : Fc) : DV.D := .tup [.str (nm f.1), .str (nm f.2.1), .int f.2.2]
def Fok (n : Nat) (f : Fc) : Prop := f.1 < n ∧ f.2.1 < n ∧ f.1 ≠ f.2.1
def pts : List DV.D := [.str "front", .str "length", .str "first", .str "second", .str "third"]
theorem nm_in : ∀ i, i < 5 → inF (.str (nm i)) pts = true := by decide +kernel
theorem nm_ne : ∀ i, i < 5 → ∀ j, j < 5 → i ≠ j → nm i ≠ nm j := by decide +kernel
theorem k_ii : lw.tb.kit.lookup (Tn.ty "int", Tn.ty "int") = some true := by kernel_rfl
theorem k_ib : lw.tb.kit.lookup (Tn.ty "int", Tn.ty "bool") = some false := by kernel_rfl
theorem k_ss : lw.tb.kit.lookup (Tn.ty "str", Tn.ty "str") = some true := by kernel_rfl
theorem k_tt : lw.tb.kit.lookup (Tn.ty "tuple", Tn.ty "tuple") = some true := by kernel_rfl
theorem gl_pts : (lw.tb.gl.lookup ("POINTS" : Str)).getD DV.D.non = DV.D.tup pts := by kernel_rfl
theorem gl_num : (lw.tb.gl.lookup ("NUMBERS" : Str)).getD DV.D.non = DV.D.glo "NUMBERS" := by kernel_rfl
theorem kd_num : ∀ i, i < 5 → lw.tb.kd "NUMBERS" (.str (nm i)) = some (.int i)
  | 0, _ => by kernel_rfl
  | 1, _ => by kernel_rfl
  | 2, _ => by kernel_rfl
  | 3, _ => by kernel_rfl
  | 4, _ => by kernel_rfl
  | n + 5, h => by omega
section
variable {k : Nat} {st : Store} {Q : DV.D → Store → Prop} {a b c d : DV.D}
theorem e0 : (S (k + 1) 0 [] [a] st).to Q = (denB lw.tb (S k) is0 [.v a] st).to (endPo Q) := enter (d := d0) (xs := [a]) rfl rfl
theorem e1 : (S (k + 1) 1 [] [a, b] st).to Q = (denB lw.tb (S k) is1 [.v a, .v b] st).to (endPo Q) := enter (d := d1) (xs := [a, b]) rfl rfl
theorem e2 : (S (k + 1) 2 [] [a] st).to Q = (denB lw.tb (S k) is2 [.v a] st).to (endPo Q) := enter (d := d2) (xs := [a]) rfl rfl
theorem e4 : (S (k + 1) 4 [] [a, b, c, d] st).to Q = (denB lw.tb (S k) is4 [.v a, .v b, .v c, .v d] st).to (endPo Q) := enter (d := d4) (xs := [a, b, c, d]) rfl rfl
theorem e5 : (S (k + 1) 5 [] [a, b, c] st).to Q = (denB lw.tb (S k) is5 [.v a, .v b, .v c] st).to (endPo Q) := enter (d := d5) (xs := [a, b, c]) rfl rfl
theorem e6 : (S (k + 1) 6 [] [a, b, c, d] st).to Q = (denB lw.tb (S k) is6 [.v a, .v b, .v c, .v d, .un, .un, .un, .un, .un] st).to (endPo Q) := enter (d := d6) (xs := [a, b, c, d]) rfl rfl
theorem e7 : (S (k + 1) 7 [] [a, b] st).to Q = (denB lw.tb (S k) is7 [.v a, .v b, .un, .un, .un] st).to (endPo Q) := enter (d := d7) (xs := [a, b]) rfl rfl
theorem e8 : (S (k + 1) 8 [] [a, b] st).to Q = (denB lw.tb (S k) is8 [.v a, .v b] st).to (endPo Q) := enter (d := d8) (xs := [a, b]) rfl rfl
theorem e9 : (S (k + 1) 9 [] [a] st).to Q = (denB lw.tb (S k) is9 [.v a, .un, .un, .un] st).to (endPo Q) := enter (d := d9) (xs := [a]) rfl rfl
theorem isInt {i : Int} : (S (k + 1) 0 [] [.int i] st).to fun d st' => d = .bl true ∧ st' = st := by
  rw [e0]
  unfold is0
  try simp only [w_var, w_int, w_bl, w_non, w_str, w_gl, w_ty, w_bin, w_un, w_cmp, w_chain, w_and, w_or, w_not, w_ife, ev_nil, ev_cons, w_tup, w_lst, w_lstM, w_ix, part_nop, w_sl, w_bi, w_call, w_callS, w_meth, w_op, w_attr, w_app, w_idx, w_dzip, w_lc, w_lcM, w_tru, w_nott, w_andt, w_ort, i_itv, i_rng1, i_rng2, i_enm, b_nil, b_cons, s_exp, s_doc, s_pass, s_brk, s_cont, s_never, s_set, s_asg, g_var, g_sub, g_tup, gs_nil, gs_cons, s_par, s_ret, s_retF, s_retN, s_ite, s_for, for_nil, s_attr, w_prp, w_dun, w_fmt, w_fst, js_nil, js_cons, w_xisi, s_raise0, s_par3, p_add, p_addS, p_addT, p_addL, p_addB, p_sub, p_mul, p_mulL, p_fdiv, p_mod, p_pow, p_neg, p_eqI, p_neI, p_eqS, p_neS, p_eqB, p_lt, p_le, p_gt, p_ge, p_isN, p_isNN, p_isB, p_isNB, p_inT, p_ninT, p_ninK, p_ixL, p_ixT, p_ixK, p_ixG, p_ixR, p_put, p_slL, p_slT, p_lenL, p_lenT, p_lenS, p_intI, p_abs, p_max, p_min, p_divmod, p_tupT, p_tupL, p_tupR, p_all, p_any, p_repr, p_isi, p_app, p_idx, p_itL, p_itT, p_rng1, p_rng2, p_enmT, p_enmL, p_fmtS, p_fmtI, p_dlenI, p_dreprI, p_dboolI, p_dlenL, p_dlenT, p_dlenS, p_dreprL, p_dreprT, p_dreprS, p_dreprN, p_dreprB, p_dreprO, p_dboolN, p_dboolB, p_dboolL, p_strI, p_strS, oto_some, slTo_v, tst_bl, asInt_int, asBl_bl, asLst_l, asRef_r, asL_l, asStr_s, asExn_e, List.set_cons_zero, List.set_cons_succ, List.getElem?_cons_zero, List.getElem?_cons_succ, List.length_cons, List.length_nil, List.nil_append, List.cons_append, List.append_nil, k_ii, k_ib, List.getElem?_set_self, List.length_set, List.set_set, p_dzip, p_putA, asIns_i, tn_non, tn_bl, tn_int, tn_str, tn_tup, tn_lst, tn_dK, tn_ins, asTn_ty, asTn_glo, tru_bl, tru_non, tru_int, tru_lst, tru_tup, truP_bl, truP_non, truP_int, truP_lst, truP_tup, isNon_non, isNon_int, isNon_tup, isNon_lst, isNon_str, isNon_ins, seqD_tup, seqD_lst, insOf_ins, atI_0, atI_1, atI_2, atI_3, atI_4, ixN_0, ixN_1, ixN_2, ixN_3, ixN_4]
  exact ⟨fun _ => ⟨rfl, rfl⟩, fun z => by cases z⟩
theorem isWord {i : Nat} (h : i < 5) : (S (k + 1) 1 [] [.str (nm i), .tup pts] st).to fun d st' => d = .bl true ∧ st' = st := by
  rw [e1]
  unfold is1
  try simp only [w_var, w_int, w_bl, w_non, w_str, w_gl, w_ty, w_bin, w_un, w_cmp, w_chain, w_and, w_or, w_not, w_ife, ev_nil, ev_cons, w_tup, w_lst, w_lstM, w_ix, part_nop, w_sl, w_bi, w_call, w_callS, w_meth, w_op, w_attr, w_app, w_idx, w_dzip, w_lc, w_lcM, w_tru, w_nott, w_andt, w_ort, i_itv, i_rng1, i_rng2, i_enm, b_nil, b_cons, s_exp, s_doc, s_pass, s_brk, s_cont, s_never, s_set, s_asg, g_var, g_sub, g_tup, gs_nil, gs_cons, s_par, s_ret, s_retF, s_retN, s_ite, s_for, for_nil, s_attr, w_prp, w_dun, w_fmt, w_fst, js_nil, js_cons, w_xisi, s_raise0, s_par3, p_add, p_addS, p_addT, p_addL, p_addB, p_sub, p_mul, p_mulL, p_fdiv, p_mod, p_pow, p_neg, p_eqI, p_neI, p_eqS, p_neS, p_eqB, p_lt, p_le, p_gt, p_ge, p_isN, p_isNN, p_isB, p_isNB, p_inT, p_ninT, p_ninK, p_ixL, p_ixT, p_ixK, p_ixG, p_ixR, p_put, p_slL, p_slT, p_lenL, p_lenT, p_lenS, p_intI, p_abs, p_max, p_min, p_divmod, p_tupT, p_tupL, p_tupR, p_all, p_any, p_repr, p_isi, p_app, p_idx, p_itL, p_itT, p_rng1, p_rng2, p_enmT, p_enmL, p_fmtS, p_fmtI, p_dlenI, p_dreprI, p_dboolI, p_dlenL, p_dlenT, p_dlenS, p_dreprL, p_dreprT, p_dreprS, p_dreprN, p_dreprB, p_dreprO, p_dboolN, p_dboolB, p_dboolL, p_strI, p_strS, oto_some, slTo_v, tst_bl, asInt_int, asBl_bl, asLst_l, asRef_r, asL_l, asStr_s, asExn_e, List.set_cons_zero, List.set_cons_succ, List.getElem?_cons_zero, List.getElem?_cons_succ, List.length_cons, List.length_nil, List.nil_append, List.cons_append, List.append_nil, k_ss, List.getElem?_set_self, List.length_set, List.set_set, p_dzip, p_putA, asIns_i, tn_non, tn_bl, tn_int, tn_str, tn_tup, tn_lst, tn_dK, tn_ins, asTn_ty, asTn_glo, tru_bl, tru_non, tru_int, tru_lst, tru_tup, truP_bl, truP_non, truP_int, truP_lst, truP_tup, isNon_non, isNon_int, isNon_tup, isNon_lst, isNon_str, isNon_ins, seqD_tup, seqD_lst, insOf_ins, atI_0, atI_1, atI_2, atI_3, atI_4, ixN_0, ixN_1, ixN_2, ixN_3, ixN_4]
  exact ⟨fun _ => ⟨by rfl, by rw [nm_in i h]; exact ⟨rfl, rfl⟩⟩, fun z => by cases z⟩
theorem chkLen {i : Int} (h : 0 ≤ i) : (S (k + 2) 2 [] [.int i] st).to fun d st' => st' = st := by
  rw [e2]
  unfold is2
  try simp only [w_var, w_int, w_bl, w_non, w_str, w_gl, w_ty, w_bin, w_un, w_cmp, w_chain, w_and, w_or, w_not, w_ife, ev_nil, ev_cons, w_tup, w_lst, w_lstM, w_ix, part_nop, w_sl, w_bi, w_call, w_callS, w_meth, w_op, w_attr, w_app, w_idx, w_dzip, w_lc, w_lcM, w_tru, w_nott, w_andt, w_ort, i_itv, i_rng1, i_rng2, i_enm, b_nil, b_cons, s_exp, s_doc, s_pass, s_brk, s_cont, s_never, s_set, s_asg, g_var, g_sub, g_tup, gs_nil, gs_cons, s_par, s_ret, s_retF, s_retN, s_ite, s_for, for_nil, s_attr, w_prp, w_dun, w_fmt, w_fst, js_nil, js_cons, w_xisi, s_raise0, s_par3, p_add, p_addS, p_addT, p_addL, p_addB, p_sub, p_mul, p_mulL, p_fdiv, p_mod, p_pow, p_neg, p_eqI, p_neI, p_eqS, p_neS, p_eqB, p_lt, p_le, p_gt, p_ge, p_isN, p_isNN, p_isB, p_isNB, p_inT, p_ninT, p_ninK, p_ixL, p_ixT, p_ixK, p_ixG, p_ixR, p_put, p_slL, p_slT, p_lenL, p_lenT, p_lenS, p_intI, p_abs, p_max, p_min, p_divmod, p_tupT, p_tupL, p_tupR, p_all, p_any, p_repr, p_isi, p_app, p_idx, p_itL, p_itT, p_rng1, p_rng2, p_enmT, p_enmL, p_fmtS, p_fmtI, p_dlenI, p_dreprI, p_dboolI, p_dlenL, p_dlenT, p_dlenS, p_dreprL, p_dreprT, p_dreprS, p_dreprN, p_dreprB, p_dreprO, p_dboolN, p_dboolB, p_dboolL, p_strI, p_strS, oto_some, slTo_v, tst_bl, asInt_int, asBl_bl, asLst_l, asRef_r, asL_l, asStr_s, asExn_e, List.set_cons_zero, List.set_cons_succ, List.getElem?_cons_zero, List.getElem?_cons_succ, List.length_cons, List.length_nil, List.nil_append, List.cons_append, List.append_nil, List.getElem?_set_self, List.length_set, List.set_set, p_dzip, p_putA, asIns_i, tn_non, tn_bl, tn_int, tn_str, tn_tup, tn_lst, tn_dK, tn_ins, asTn_ty, asTn_glo, tru_bl, tru_non, tru_int, tru_lst, tru_tup, truP_bl, truP_non, truP_int, truP_lst, truP_tup, isNon_non, isNon_int, isNon_tup, isNon_lst, isNon_str, isNon_ins, seqD_tup, seqD_lst, insOf_ins, atI_0, atI_1, atI_2, atI_3, atI_4, ixN_0, ixN_1, ixN_2, ixN_3, ixN_4]
  refine ⟨True.intro, R.to_mono isInt ?_⟩
  rintro _ st1 ⟨rfl, rfl⟩
  try simp only [w_var, w_int, w_bl, w_non, w_str, w_gl, w_ty, w_bin, w_un, w_cmp, w_chain, w_and, w_or, w_not, w_ife, ev_nil, ev_cons, w_tup, w_lst, w_lstM, w_ix, part_nop, w_sl, w_bi, w_call, w_callS, w_meth, w_op, w_attr, w_app, w_idx, w_dzip, w_lc, w_lcM, w_tru, w_nott, w_andt, w_ort, i_itv, i_rng1, i_rng2, i_enm, b_nil, b_cons, s_exp, s_doc, s_pass, s_brk, s_cont, s_never, s_set, s_asg, g_var, g_sub, g_tup, gs_nil, gs_cons, s_par, s_ret, s_retF, s_retN, s_ite, s_for, for_nil, s_attr, w_prp, w_dun, w_fmt, w_fst, js_nil, js_cons, w_xisi, s_raise0, s_par3, p_add, p_addS, p_addT, p_addL, p_addB, p_sub, p_mul, p_mulL, p_fdiv, p_mod, p_pow, p_neg, p_eqI, p_neI, p_eqS, p_neS, p_eqB, p_lt, p_le, p_gt, p_ge, p_isN, p_isNN, p_isB, p_isNB, p_inT, p_ninT, p_ninK, p_ixL, p_ixT, p_ixK, p_ixG, p_ixR, p_put, p_slL, p_slT, p_lenL, p_lenT, p_lenS, p_intI, p_abs, p_max, p_min, p_divmod, p_tupT, p_tupL, p_tupR, p_all, p_any, p_repr, p_isi, p_app, p_idx, p_itL, p_itT, p_rng1, p_rng2, p_enmT, p_enmL, p_fmtS, p_fmtI, p_dlenI, p_dreprI, p_dboolI, p_dlenL, p_dlenT, p_dlenS, p_dreprL, p_dreprT, p_dreprS, p_dreprN, p_dreprB, p_dreprO, p_dboolN, p_dboolB, p_dboolL, p_strI, p_strS, oto_some, slTo_v, tst_bl, asInt_int, asBl_bl, asLst_l, asRef_r, asL_l, asStr_s, asExn_e, List.set_cons_zero, List.set_cons_succ, List.getElem?_cons_zero, List.getElem?_cons_succ, List.length_cons, List.length_nil, List.nil_append, List.cons_append, List.append_nil, List.getElem?_set_self, List.length_set, List.set_set, p_dzip, p_putA, asIns_i, tn_non, tn_bl, tn_int, tn_str, tn_tup, tn_lst, tn_dK, tn_ins, asTn_ty, asTn_glo, tru_bl, tru_non, tru_int, tru_lst, tru_tup, truP_bl, truP_non, truP_int, truP_lst, truP_tup, isNon_non, isNon_int, isNon_tup, isNon_lst, isNon_str, isNon_ins, seqD_tup, seqD_lst, insOf_ins, atI_0, atI_1, atI_2, atI_3, atI_4, ixN_0, ixN_1, ixN_2, ixN_3, ixN_4]
  refine ⟨fun z => by (cases z), fun _ => ⟨fun z => ?_, fun _ => rfl⟩⟩
  have := of_decide_eq_true z
  omega
theorem isFact {f : Fc} (h : Fok 5 f) : (S (k + 2) 8 [] [fD f, .int 5] st).to fun d st' => d = .bl true ∧ st' = st := by
  obtain ⟨i, j, b⟩ := f
  obtain ⟨h1, h2, h3⟩ := h
  have hne : nm i ≠ nm j := nm_ne i h1 j h2 h3
  rw [e8]
  unfold is8 fD
  try simp only [w_var, w_int, w_bl, w_non, w_str, w_gl, w_ty, w_bin, w_un, w_cmp, w_chain, w_and, w_or, w_not, w_ife, ev_nil, ev_cons, w_tup, w_lst, w_lstM, w_ix, part_nop, w_sl, w_bi, w_call, w_callS, w_meth, w_op, w_attr, w_app, w_idx, w_dzip, w_lc, w_lcM, w_tru, w_nott, w_andt, w_ort, i_itv, i_rng1, i_rng2, i_enm, b_nil, b_cons, s_exp, s_doc, s_pass, s_brk, s_cont, s_never, s_set, s_asg, g_var, g_sub, g_tup, gs_nil, gs_cons, s_par, s_ret, s_retF, s_retN, s_ite, s_for, for_nil, s_attr, w_prp, w_dun, w_fmt, w_fst, js_nil, js_cons, w_xisi, s_raise0, s_par3, p_add, p_addS, p_addT, p_addL, p_addB, p_sub, p_mul, p_mulL, p_fdiv, p_mod, p_pow, p_neg, p_eqI, p_neI, p_eqS, p_neS, p_eqB, p_lt, p_le, p_gt, p_ge, p_isN, p_isNN, p_isB, p_isNB, p_inT, p_ninT, p_ninK, p_ixL, p_ixT, p_ixK, p_ixG, p_ixR, p_put, p_slL, p_slT, p_lenL, p_lenT, p_lenS, p_intI, p_abs, p_max, p_min, p_divmod, p_tupT, p_tupL, p_tupR, p_all, p_any, p_repr, p_isi, p_app, p_idx, p_itL, p_itT, p_rng1, p_rng2, p_enmT, p_enmL, p_fmtS, p_fmtI, p_dlenI, p_dreprI, p_dboolI, p_dlenL, p_dlenT, p_dlenS, p_dreprL, p_dreprT, p_dreprS, p_dreprN, p_dreprB, p_dreprO, p_dboolN, p_dboolB, p_dboolL, p_strI, p_strS, oto_some, slTo_v, tst_bl, asInt_int, asBl_bl, asLst_l, asRef_r, asL_l, asStr_s, asExn_e, List.set_cons_zero, List.set_cons_succ, List.getElem?_cons_zero, List.getElem?_cons_succ, List.length_cons, List.length_nil, List.nil_append, List.cons_append, List.append_nil, k_tt, gl_pts, List.getElem?_set_self, List.length_set, List.set_set, p_dzip, p_putA, asIns_i, tn_non, tn_bl, tn_int, tn_str, tn_tup, tn_lst, tn_dK, tn_ins, asTn_ty, asTn_glo, tru_bl, tru_non, tru_int, tru_lst, tru_tup, truP_bl, truP_non, truP_int, truP_lst, truP_tup, isNon_non, isNon_int, isNon_tup, isNon_lst, isNon_str, isNon_ins, seqD_tup, seqD_lst, insOf_ins, atI_0, atI_1, atI_2, atI_3, atI_4, ixN_0, ixN_1, ixN_2, ixN_3, ixN_4]
  refine ⟨fun z => by (cases z), fun _ => ⟨fun z => by (cases z), fun _ => ?_⟩⟩
  rw [part_of _ _ _ _ _ (by intro z; cases z)]
  try simp only [w_var, w_int, w_bl, w_non, w_str, w_gl, w_ty, w_bin, w_un, w_cmp, w_chain, w_and, w_or, w_not, w_ife, ev_nil, ev_cons, w_tup, w_lst, w_lstM, w_ix, part_nop, w_sl, w_bi, w_call, w_callS, w_meth, w_op, w_attr, w_app, w_idx, w_dzip, w_lc, w_lcM, w_tru, w_nott, w_andt, w_ort, i_itv, i_rng1, i_rng2, i_enm, b_nil, b_cons, s_exp, s_doc, s_pass, s_brk, s_cont, s_never, s_set, s_asg, g_var, g_sub, g_tup, gs_nil, gs_cons, s_par, s_ret, s_retF, s_retN, s_ite, s_for, for_nil, s_attr, w_prp, w_dun, w_fmt, w_fst, js_nil, js_cons, w_xisi, s_raise0, s_par3, p_add, p_addS, p_addT, p_addL, p_addB, p_sub, p_mul, p_mulL, p_fdiv, p_mod, p_pow, p_neg, p_eqI, p_neI, p_eqS, p_neS, p_eqB, p_lt, p_le, p_gt, p_ge, p_isN, p_isNN, p_isB, p_isNB, p_inT, p_ninT, p_ninK, p_ixL, p_ixT, p_ixK, p_ixG, p_ixR, p_put, p_slL, p_slT, p_lenL, p_lenT, p_lenS, p_intI, p_abs, p_max, p_min, p_divmod, p_tupT, p_tupL, p_tupR, p_all, p_any, p_repr, p_isi, p_app, p_idx, p_itL, p_itT, p_rng1, p_rng2, p_enmT, p_enmL, p_fmtS, p_fmtI, p_dlenI, p_dreprI, p_dboolI, p_dlenL, p_dlenT, p_dlenS, p_dreprL, p_dreprT, p_dreprS, p_dreprN, p_dreprB, p_dreprO, p_dboolN, p_dboolB, p_dboolL, p_strI, p_strS, oto_some, slTo_v, tst_bl, asInt_int, asBl_bl, asLst_l, asRef_r, asL_l, asStr_s, asExn_e, List.set_cons_zero, List.set_cons_succ, List.getElem?_cons_zero, List.getElem?_cons_succ, List.length_cons, List.length_nil, List.nil_append, List.cons_append, List.append_nil, List.getElem?_set_self, List.length_set, List.set_set, p_dzip, p_putA, asIns_i, tn_non, tn_bl, tn_int, tn_str, tn_tup, tn_lst, tn_dK, tn_ins, asTn_ty, asTn_glo, tru_bl, tru_non, tru_int, tru_lst, tru_tup, truP_bl, truP_non, truP_int, truP_lst, truP_tup, isNon_non, isNon_int, isNon_tup, isNon_lst, isNon_str, isNon_ins, seqD_tup, seqD_lst, insOf_ins, atI_0, atI_1, atI_2, atI_3, atI_4, ixN_0, ixN_1, ixN_2, ixN_3, ixN_4]
  have e : DV.cutD pts none (some 5) = pts := rfl
  rw [e]
  refine ⟨True.intro, R.to_mono (isWord h1) ?_⟩
  rintro _ st1 ⟨rfl, rfl⟩
  try simp only [w_var, w_int, w_bl, w_non, w_str, w_gl, w_ty, w_bin, w_un, w_cmp, w_chain, w_and, w_or, w_not, w_ife, ev_nil, ev_cons, w_tup, w_lst, w_lstM, w_ix, part_nop, w_sl, w_bi, w_call, w_callS, w_meth, w_op, w_attr, w_app, w_idx, w_dzip, w_lc, w_lcM, w_tru, w_nott, w_andt, w_ort, i_itv, i_rng1, i_rng2, i_enm, b_nil, b_cons, s_exp, s_doc, s_pass, s_brk, s_cont, s_never, s_set, s_asg, g_var, g_sub, g_tup, gs_nil, gs_cons, s_par, s_ret, s_retF, s_retN, s_ite, s_for, for_nil, s_attr, w_prp, w_dun, w_fmt, w_fst, js_nil, js_cons, w_xisi, s_raise0, s_par3, p_add, p_addS, p_addT, p_addL, p_addB, p_sub, p_mul, p_mulL, p_fdiv, p_mod, p_pow, p_neg, p_eqI, p_neI, p_eqS, p_neS, p_eqB, p_lt, p_le, p_gt, p_ge, p_isN, p_isNN, p_isB, p_isNB, p_inT, p_ninT, p_ninK, p_ixL, p_ixT, p_ixK, p_ixG, p_ixR, p_put, p_slL, p_slT, p_lenL, p_lenT, p_lenS, p_intI, p_abs, p_max, p_min, p_divmod, p_tupT, p_tupL, p_tupR, p_all, p_any, p_repr, p_isi, p_app, p_idx, p_itL, p_itT, p_rng1, p_rng2, p_enmT, p_enmL, p_fmtS, p_fmtI, p_dlenI, p_dreprI, p_dboolI, p_dlenL, p_dlenT, p_dlenS, p_dreprL, p_dreprT, p_dreprS, p_dreprN, p_dreprB, p_dreprO, p_dboolN, p_dboolB, p_dboolL, p_strI, p_strS, oto_some, slTo_v, tst_bl, asInt_int, asBl_bl, asLst_l, asRef_r, asL_l, asStr_s, asExn_e, List.set_cons_zero, List.set_cons_succ, List.getElem?_cons_zero, List.getElem?_cons_succ, List.length_cons, List.length_nil, List.nil_append, List.cons_append, List.append_nil, List.getElem?_set_self, List.length_set, List.set_set, p_dzip, p_putA, asIns_i, tn_non, tn_bl, tn_int, tn_str, tn_tup, tn_lst, tn_dK, tn_ins, asTn_ty, asTn_glo, tru_bl, tru_non, tru_int, tru_lst, tru_tup, truP_bl, truP_non, truP_int, truP_lst, truP_tup, isNon_non, isNon_int, isNon_tup, isNon_lst, isNon_str, isNon_ins, seqD_tup, seqD_lst, insOf_ins, atI_0, atI_1, atI_2, atI_3, atI_4, ixN_0, ixN_1, ixN_2, ixN_3, ixN_4]
  refine ⟨fun z => by (cases z), fun _ => ?_⟩
  rw [part_of _ _ _ _ _ (by intro z; cases z)]
  try simp only [w_var, w_int, w_bl, w_non, w_str, w_gl, w_ty, w_bin, w_un, w_cmp, w_chain, w_and, w_or, w_not, w_ife, ev_nil, ev_cons, w_tup, w_lst, w_lstM, w_ix, part_nop, w_sl, w_bi, w_call, w_callS, w_meth, w_op, w_attr, w_app, w_idx, w_dzip, w_lc, w_lcM, w_tru, w_nott, w_andt, w_ort, i_itv, i_rng1, i_rng2, i_enm, b_nil, b_cons, s_exp, s_doc, s_pass, s_brk, s_cont, s_never, s_set, s_asg, g_var, g_sub, g_tup, gs_nil, gs_cons, s_par, s_ret, s_retF, s_retN, s_ite, s_for, for_nil, s_attr, w_prp, w_dun, w_fmt, w_fst, js_nil, js_cons, w_xisi, s_raise0, s_par3, p_add, p_addS, p_addT, p_addL, p_addB, p_sub, p_mul, p_mulL, p_fdiv, p_mod, p_pow, p_neg, p_eqI, p_neI, p_eqS, p_neS, p_eqB, p_lt, p_le, p_gt, p_ge, p_isN, p_isNN, p_isB, p_isNB, p_inT, p_ninT, p_ninK, p_ixL, p_ixT, p_ixK, p_ixG, p_ixR, p_put, p_slL, p_slT, p_lenL, p_lenT, p_lenS, p_intI, p_abs, p_max, p_min, p_divmod, p_tupT, p_tupL, p_tupR, p_all, p_any, p_repr, p_isi, p_app, p_idx, p_itL, p_itT, p_rng1, p_rng2, p_enmT, p_enmL, p_fmtS, p_fmtI, p_dlenI, p_dreprI, p_dboolI, p_dlenL, p_dlenT, p_dlenS, p_dreprL, p_dreprT, p_dreprS, p_dreprN, p_dreprB, p_dreprO, p_dboolN, p_dboolB, p_dboolL, p_strI, p_strS, oto_some, slTo_v, tst_bl, asInt_int, asBl_bl, asLst_l, asRef_r, asL_l, asStr_s, asExn_e, List.set_cons_zero, List.set_cons_succ, List.getElem?_cons_zero, List.getElem?_cons_succ, List.length_cons, List.length_nil, List.nil_append, List.cons_append, List.append_nil, List.getElem?_set_self, List.length_set, List.set_set, p_dzip, p_putA, asIns_i, tn_non, tn_bl, tn_int, tn_str, tn_tup, tn_lst, tn_dK, tn_ins, asTn_ty, asTn_glo, tru_bl, tru_non, tru_int, tru_lst, tru_tup, truP_bl, truP_non, truP_int, truP_lst, truP_tup, isNon_non, isNon_int, isNon_tup, isNon_lst, isNon_str, isNon_ins, seqD_tup, seqD_lst, insOf_ins, atI_0, atI_1, atI_2, atI_3, atI_4, ixN_0, ixN_1, ixN_2, ixN_3, ixN_4]
  rw [e]
  refine ⟨True.intro, R.to_mono (isWord h2) ?_⟩
  rintro _ st1 ⟨rfl, rfl⟩
  try simp only [w_var, w_int, w_bl, w_non, w_str, w_gl, w_ty, w_bin, w_un, w_cmp, w_chain, w_and, w_or, w_not, w_ife, ev_nil, ev_cons, w_tup, w_lst, w_lstM, w_ix, part_nop, w_sl, w_bi, w_call, w_callS, w_meth, w_op, w_attr, w_app, w_idx, w_dzip, w_lc, w_lcM, w_tru, w_nott, w_andt, w_ort, i_itv, i_rng1, i_rng2, i_enm, b_nil, b_cons, s_exp, s_doc, s_pass, s_brk, s_cont, s_never, s_set, s_asg, g_var, g_sub, g_tup, gs_nil, gs_cons, s_par, s_ret, s_retF, s_retN, s_ite, s_for, for_nil, s_attr, w_prp, w_dun, w_fmt, w_fst, js_nil, js_cons, w_xisi, s_raise0, s_par3, p_add, p_addS, p_addT, p_addL, p_addB, p_sub, p_mul, p_mulL, p_fdiv, p_mod, p_pow, p_neg, p_eqI, p_neI, p_eqS, p_neS, p_eqB, p_lt, p_le, p_gt, p_ge, p_isN, p_isNN, p_isB, p_isNB, p_inT, p_ninT, p_ninK, p_ixL, p_ixT, p_ixK, p_ixG, p_ixR, p_put, p_slL, p_slT, p_lenL, p_lenT, p_lenS, p_intI, p_abs, p_max, p_min, p_divmod, p_tupT, p_tupL, p_tupR, p_all, p_any, p_repr, p_isi, p_app, p_idx, p_itL, p_itT, p_rng1, p_rng2, p_enmT, p_enmL, p_fmtS, p_fmtI, p_dlenI, p_dreprI, p_dboolI, p_dlenL, p_dlenT, p_dlenS, p_dreprL, p_dreprT, p_dreprS, p_dreprN, p_dreprB, p_dreprO, p_dboolN, p_dboolB, p_dboolL, p_strI, p_strS, oto_some, slTo_v, tst_bl, asInt_int, asBl_bl, asLst_l, asRef_r, asL_l, asStr_s, asExn_e, List.set_cons_zero, List.set_cons_succ, List.getElem?_cons_zero, List.getElem?_cons_succ, List.length_cons, List.length_nil, List.nil_append, List.cons_append, List.append_nil, List.getElem?_set_self, List.length_set, List.set_set, p_dzip, p_putA, asIns_i, tn_non, tn_bl, tn_int, tn_str, tn_tup, tn_lst, tn_dK, tn_ins, asTn_ty, asTn_glo, tru_bl, tru_non, tru_int, tru_lst, tru_tup, truP_bl, truP_non, truP_int, truP_lst, truP_tup, isNon_non, isNon_int, isNon_tup, isNon_lst, isNon_str, isNon_ins, seqD_tup, seqD_lst, insOf_ins, atI_0, atI_1, atI_2, atI_3, atI_4, ixN_0, ixN_1, ixN_2, ixN_3, ixN_4]
  refine ⟨fun z => by (cases z), fun _ => ⟨fun _ => ⟨True.intro, R.to_mono isInt ?_⟩, fun z => ?_⟩⟩
  · rintro _ st1 ⟨rfl, rfl⟩
    exact ⟨rfl, rfl⟩
  · have hd : decide (nm i = nm j) = false := decide_eq_false hne
    rw [hd] at z
    cases z
/-! ### tables -/
def oD : Option Int → DV.D
  | none => .non
  | some z => .int z
def rowD (t : SP.Tab) (x : Nat) : DV.D := .tup ((List.range 5).map fun y => oD (t x y))
def tabD (t : SP.Tab) : DV.D := .tup ((List.range 5).map (rowD t))
theorem at_r {α : Type} {f : Nat → α} {x : Nat} (h : x < 5) : atI ((List.range 5).map f) (x : Int) = some (f x) := atI_get (by
  rw [List.getElem?_map, List.getElem?_range h]
  rfl)
def folB (t : SP.Tab) (x y : Nat) (z : Int) : Bool := match t x y with
  | some u => decide (u ≤ z)
  | none => false
theorem follows4 {t : SP.Tab} {x y : Nat} {z : Int} (hx : x < 5) (hy : y < 5) : (S (k + 1) 4 [] [tabD t, .int x, .int y, .int z] st).to fun d st' => d = .bl (folB t x y z) ∧ st' = st := by
  rw [e4]
  unfold is4 tabD
  try simp only [w_var, w_int, w_bl, w_non, w_str, w_gl, w_ty, w_bin, w_un, w_cmp, w_chain, w_and, w_or, w_not, w_ife, ev_nil, ev_cons, w_tup, w_lst, w_lstM, w_ix, part_nop, w_sl, w_bi, w_call, w_callS, w_meth, w_op, w_attr, w_app, w_idx, w_dzip, w_lc, w_lcM, w_tru, w_nott, w_andt, w_ort, i_itv, i_rng1, i_rng2, i_enm, b_nil, b_cons, s_exp, s_doc, s_pass, s_brk, s_cont, s_never, s_set, s_asg, g_var, g_sub, g_tup, gs_nil, gs_cons, s_par, s_ret, s_retF, s_retN, s_ite, s_for, for_nil, s_attr, w_prp, w_dun, w_fmt, w_fst, js_nil, js_cons, w_xisi, s_raise0, s_par3, p_add, p_addS, p_addT, p_addL, p_addB, p_sub, p_mul, p_mulL, p_fdiv, p_mod, p_pow, p_neg, p_eqI, p_neI, p_eqS, p_neS, p_eqB, p_lt, p_le, p_gt, p_ge, p_isN, p_isNN, p_isB, p_isNB, p_inT, p_ninT, p_ninK, p_ixL, p_ixT, p_ixK, p_ixG, p_ixR, p_put, p_slL, p_slT, p_lenL, p_lenT, p_lenS, p_intI, p_abs, p_max, p_min, p_divmod, p_tupT, p_tupL, p_tupR, p_all, p_any, p_repr, p_isi, p_app, p_idx, p_itL, p_itT, p_rng1, p_rng2, p_enmT, p_enmL, p_fmtS, p_fmtI, p_dlenI, p_dreprI, p_dboolI, p_dlenL, p_dlenT, p_dlenS, p_dreprL, p_dreprT, p_dreprS, p_dreprN, p_dreprB, p_dreprO, p_dboolN, p_dboolB, p_dboolL, p_strI, p_strS, oto_some, slTo_v, tst_bl, asInt_int, asBl_bl, asLst_l, asRef_r, asL_l, asStr_s, asExn_e, List.set_cons_zero, List.set_cons_succ, List.getElem?_cons_zero, List.getElem?_cons_succ, List.length_cons, List.length_nil, List.nil_append, List.cons_append, List.append_nil, at_r hx, List.getElem?_set_self, List.length_set, List.set_set, p_dzip, p_putA, asIns_i, tn_non, tn_bl, tn_int, tn_str, tn_tup, tn_lst, tn_dK, tn_ins, asTn_ty, asTn_glo, tru_bl, tru_non, tru_int, tru_lst, tru_tup, truP_bl, truP_non, truP_int, truP_lst, truP_tup, isNon_non, isNon_int, isNon_tup, isNon_lst, isNon_str, isNon_ins, seqD_tup, seqD_lst, insOf_ins, atI_0, atI_1, atI_2, atI_3, atI_4, ixN_0, ixN_1, ixN_2, ixN_3, ixN_4]
  unfold rowD folB
  try simp only [w_var, w_int, w_bl, w_non, w_str, w_gl, w_ty, w_bin, w_un, w_cmp, w_chain, w_and, w_or, w_not, w_ife, ev_nil, ev_cons, w_tup, w_lst, w_lstM, w_ix, part_nop, w_sl, w_bi, w_call, w_callS, w_meth, w_op, w_attr, w_app, w_idx, w_dzip, w_lc, w_lcM, w_tru, w_nott, w_andt, w_ort, i_itv, i_rng1, i_rng2, i_enm, b_nil, b_cons, s_exp, s_doc, s_pass, s_brk, s_cont, s_never, s_set, s_asg, g_var, g_sub, g_tup, gs_nil, gs_cons, s_par, s_ret, s_retF, s_retN, s_ite, s_for, for_nil, s_attr, w_prp, w_dun, w_fmt, w_fst, js_nil, js_cons, w_xisi, s_raise0, s_par3, p_add, p_addS, p_addT, p_addL, p_addB, p_sub, p_mul, p_mulL, p_fdiv, p_mod, p_pow, p_neg, p_eqI, p_neI, p_eqS, p_neS, p_eqB, p_lt, p_le, p_gt, p_ge, p_isN, p_isNN, p_isB, p_isNB, p_inT, p_ninT, p_ninK, p_ixL, p_ixT, p_ixK, p_ixG, p_ixR, p_put, p_slL, p_slT, p_lenL, p_lenT, p_lenS, p_intI, p_abs, p_max, p_min, p_divmod, p_tupT, p_tupL, p_tupR, p_all, p_any, p_repr, p_isi, p_app, p_idx, p_itL, p_itT, p_rng1, p_rng2, p_enmT, p_enmL, p_fmtS, p_fmtI, p_dlenI, p_dreprI, p_dboolI, p_dlenL, p_dlenT, p_dlenS, p_dreprL, p_dreprT, p_dreprS, p_dreprN, p_dreprB, p_dreprO, p_dboolN, p_dboolB, p_dboolL, p_strI, p_strS, oto_some, slTo_v, tst_bl, asInt_int, asBl_bl, asLst_l, asRef_r, asL_l, asStr_s, asExn_e, List.set_cons_zero, List.set_cons_succ, List.getElem?_cons_zero, List.getElem?_cons_succ, List.length_cons, List.length_nil, List.nil_append, List.cons_append, List.append_nil, at_r hy, List.getElem?_set_self, List.length_set, List.set_set, p_dzip, p_putA, asIns_i, tn_non, tn_bl, tn_int, tn_str, tn_tup, tn_lst, tn_dK, tn_ins, asTn_ty, asTn_glo, tru_bl, tru_non, tru_int, tru_lst, tru_tup, truP_bl, truP_non, truP_int, truP_lst, truP_tup, isNon_non, isNon_int, isNon_tup, isNon_lst, isNon_str, isNon_ins, seqD_tup, seqD_lst, insOf_ins, atI_0, atI_1, atI_2, atI_3, atI_4, ixN_0, ixN_1, ixN_2, ixN_3, ixN_4]
  cases t x y with
  | none =>
    unfold oD
    try simp only [w_var, w_int, w_bl, w_non, w_str, w_gl, w_ty, w_bin, w_un, w_cmp, w_chain, w_and, w_or, w_not, w_ife, ev_nil, ev_cons, w_tup, w_lst, w_lstM, w_ix, part_nop, w_sl, w_bi, w_call, w_callS, w_meth, w_op, w_attr, w_app, w_idx, w_dzip, w_lc, w_lcM, w_tru, w_nott, w_andt, w_ort, i_itv, i_rng1, i_rng2, i_enm, b_nil, b_cons, s_exp, s_doc, s_pass, s_brk, s_cont, s_never, s_set, s_asg, g_var, g_sub, g_tup, gs_nil, gs_cons, s_par, s_ret, s_retF, s_retN, s_ite, s_for, for_nil, s_attr, w_prp, w_dun, w_fmt, w_fst, js_nil, js_cons, w_xisi, s_raise0, s_par3, p_add, p_addS, p_addT, p_addL, p_addB, p_sub, p_mul, p_mulL, p_fdiv, p_mod, p_pow, p_neg, p_eqI, p_neI, p_eqS, p_neS, p_eqB, p_lt, p_le, p_gt, p_ge, p_isN, p_isNN, p_isB, p_isNB, p_inT, p_ninT, p_ninK, p_ixL, p_ixT, p_ixK, p_ixG, p_ixR, p_put, p_slL, p_slT, p_lenL, p_lenT, p_lenS, p_intI, p_abs, p_max, p_min, p_divmod, p_tupT, p_tupL, p_tupR, p_all, p_any, p_repr, p_isi, p_app, p_idx, p_itL, p_itT, p_rng1, p_rng2, p_enmT, p_enmL, p_fmtS, p_fmtI, p_dlenI, p_dreprI, p_dboolI, p_dlenL, p_dlenT, p_dlenS, p_dreprL, p_dreprT, p_dreprS, p_dreprN, p_dreprB, p_dreprO, p_dboolN, p_dboolB, p_dboolL, p_strI, p_strS, oto_some, slTo_v, tst_bl, asInt_int, asBl_bl, asLst_l, asRef_r, asL_l, asStr_s, asExn_e, List.set_cons_zero, List.set_cons_succ, List.getElem?_cons_zero, List.getElem?_cons_succ, List.length_cons, List.length_nil, List.nil_append, List.cons_append, List.append_nil, List.getElem?_set_self, List.length_set, List.set_set, p_dzip, p_putA, asIns_i, tn_non, tn_bl, tn_int, tn_str, tn_tup, tn_lst, tn_dK, tn_ins, asTn_ty, asTn_glo, tru_bl, tru_non, tru_int, tru_lst, tru_tup, truP_bl, truP_non, truP_int, truP_lst, truP_tup, isNon_non, isNon_int, isNon_tup, isNon_lst, isNon_str, isNon_ins, seqD_tup, seqD_lst, insOf_ins, atI_0, atI_1, atI_2, atI_3, atI_4, ixN_0, ixN_1, ixN_2, ixN_3, ixN_4]
    exact ⟨fun z => by (cases z), fun _ => ⟨rfl, rfl⟩⟩
  | some u =>
    unfold oD
    try simp only [w_var, w_int, w_bl, w_non, w_str, w_gl, w_ty, w_bin, w_un, w_cmp, w_chain, w_and, w_or, w_not, w_ife, ev_nil, ev_cons, w_tup, w_lst, w_lstM, w_ix, part_nop, w_sl, w_bi, w_call, w_callS, w_meth, w_op, w_attr, w_app, w_idx, w_dzip, w_lc, w_lcM, w_tru, w_nott, w_andt, w_ort, i_itv, i_rng1, i_rng2, i_enm, b_nil, b_cons, s_exp, s_doc, s_pass, s_brk, s_cont, s_never, s_set, s_asg, g_var, g_sub, g_tup, gs_nil, gs_cons, s_par, s_ret, s_retF, s_retN, s_ite, s_for, for_nil, s_attr, w_prp, w_dun, w_fmt, w_fst, js_nil, js_cons, w_xisi, s_raise0, s_par3, p_add, p_addS, p_addT, p_addL, p_addB, p_sub, p_mul, p_mulL, p_fdiv, p_mod, p_pow, p_neg, p_eqI, p_neI, p_eqS, p_neS, p_eqB, p_lt, p_le, p_gt, p_ge, p_isN, p_isNN, p_isB, p_isNB, p_inT, p_ninT, p_ninK, p_ixL, p_ixT, p_ixK, p_ixG, p_ixR, p_put, p_slL, p_slT, p_lenL, p_lenT, p_lenS, p_intI, p_abs, p_max, p_min, p_divmod, p_tupT, p_tupL, p_tupR, p_all, p_any, p_repr, p_isi, p_app, p_idx, p_itL, p_itT, p_rng1, p_rng2, p_enmT, p_enmL, p_fmtS, p_fmtI, p_dlenI, p_dreprI, p_dboolI, p_dlenL, p_dlenT, p_dlenS, p_dreprL, p_dreprT, p_dreprS, p_dreprN, p_dreprB, p_dreprO, p_dboolN, p_dboolB, p_dboolL, p_strI, p_strS, oto_some, slTo_v, tst_bl, asInt_int, asBl_bl, asLst_l, asRef_r, asL_l, asStr_s, asExn_e, List.set_cons_zero, List.set_cons_succ, List.getElem?_cons_zero, List.getElem?_cons_succ, List.length_cons, List.length_nil, List.nil_append, List.cons_append, List.append_nil, List.getElem?_set_self, List.length_set, List.set_set, p_dzip, p_putA, asIns_i, tn_non, tn_bl, tn_int, tn_str, tn_tup, tn_lst, tn_dK, tn_ins, asTn_ty, asTn_glo, tru_bl, tru_non, tru_int, tru_lst, tru_tup, truP_bl, truP_non, truP_int, truP_lst, truP_tup, isNon_non, isNon_int, isNon_tup, isNon_lst, isNon_str, isNon_ins, seqD_tup, seqD_lst, insOf_ins, atI_0, atI_1, atI_2, atI_3, atI_4, ixN_0, ixN_1, ixN_2, ixN_3, ixN_4]
    exact ⟨fun _ => ⟨rfl, rfl⟩, fun z => by (cases z)⟩
theorem least5 {o l : Option Int} {z : Int} : (S (k + 1) 5 [] [oD o, .int z, oD l] st).to fun d st' => d = oD (SP.lb o z l) ∧ st' = st := by
  rw [e5]
  unfold is5
  cases o with
  | none =>
    cases l with
    | none =>
      unfold oD SP.lb
      try simp only [w_var, w_int, w_bl, w_non, w_str, w_gl, w_ty, w_bin, w_un, w_cmp, w_chain, w_and, w_or, w_not, w_ife, ev_nil, ev_cons, w_tup, w_lst, w_lstM, w_ix, part_nop, w_sl, w_bi, w_call, w_callS, w_meth, w_op, w_attr, w_app, w_idx, w_dzip, w_lc, w_lcM, w_tru, w_nott, w_andt, w_ort, i_itv, i_rng1, i_rng2, i_enm, b_nil, b_cons, s_exp, s_doc, s_pass, s_brk, s_cont, s_never, s_set, s_asg, g_var, g_sub, g_tup, gs_nil, gs_cons, s_par, s_ret, s_retF, s_retN, s_ite, s_for, for_nil, s_attr, w_prp, w_dun, w_fmt, w_fst, js_nil, js_cons, w_xisi, s_raise0, s_par3, p_add, p_addS, p_addT, p_addL, p_addB, p_sub, p_mul, p_mulL, p_fdiv, p_mod, p_pow, p_neg, p_eqI, p_neI, p_eqS, p_neS, p_eqB, p_lt, p_le, p_gt, p_ge, p_isN, p_isNN, p_isB, p_isNB, p_inT, p_ninT, p_ninK, p_ixL, p_ixT, p_ixK, p_ixG, p_ixR, p_put, p_slL, p_slT, p_lenL, p_lenT, p_lenS, p_intI, p_abs, p_max, p_min, p_divmod, p_tupT, p_tupL, p_tupR, p_all, p_any, p_repr, p_isi, p_app, p_idx, p_itL, p_itT, p_rng1, p_rng2, p_enmT, p_enmL, p_fmtS, p_fmtI, p_dlenI, p_dreprI, p_dboolI, p_dlenL, p_dlenT, p_dlenS, p_dreprL, p_dreprT, p_dreprS, p_dreprN, p_dreprB, p_dreprO, p_dboolN, p_dboolB, p_dboolL, p_strI, p_strS, oto_some, slTo_v, tst_bl, asInt_int, asBl_bl, asLst_l, asRef_r, asL_l, asStr_s, asExn_e, List.set_cons_zero, List.set_cons_succ, List.getElem?_cons_zero, List.getElem?_cons_succ, List.length_cons, List.length_nil, List.nil_append, List.cons_append, List.append_nil, List.getElem?_set_self, List.length_set, List.set_set, p_dzip, p_putA, asIns_i, tn_non, tn_bl, tn_int, tn_str, tn_tup, tn_lst, tn_dK, tn_ins, asTn_ty, asTn_glo, tru_bl, tru_non, tru_int, tru_lst, tru_tup, truP_bl, truP_non, truP_int, truP_lst, truP_tup, isNon_non, isNon_int, isNon_tup, isNon_lst, isNon_str, isNon_ins, seqD_tup, seqD_lst, insOf_ins, atI_0, atI_1, atI_2, atI_3, atI_4, ixN_0, ixN_1, ixN_2, ixN_3, ixN_4]
      exact ⟨fun _ => ⟨fun _ => ⟨rfl, rfl⟩, fun z => by (cases z)⟩, fun z => by (cases z)⟩
    | some u =>
      unfold oD SP.lb
      try simp only [w_var, w_int, w_bl, w_non, w_str, w_gl, w_ty, w_bin, w_un, w_cmp, w_chain, w_and, w_or, w_not, w_ife, ev_nil, ev_cons, w_tup, w_lst, w_lstM, w_ix, part_nop, w_sl, w_bi, w_call, w_callS, w_meth, w_op, w_attr, w_app, w_idx, w_dzip, w_lc, w_lcM, w_tru, w_nott, w_andt, w_ort, i_itv, i_rng1, i_rng2, i_enm, b_nil, b_cons, s_exp, s_doc, s_pass, s_brk, s_cont, s_never, s_set, s_asg, g_var, g_sub, g_tup, gs_nil, gs_cons, s_par, s_ret, s_retF, s_retN, s_ite, s_for, for_nil, s_attr, w_prp, w_dun, w_fmt, w_fst, js_nil, js_cons, w_xisi, s_raise0, s_par3, p_add, p_addS, p_addT, p_addL, p_addB, p_sub, p_mul, p_mulL, p_fdiv, p_mod, p_pow, p_neg, p_eqI, p_neI, p_eqS, p_neS, p_eqB, p_lt, p_le, p_gt, p_ge, p_isN, p_isNN, p_isB, p_isNB, p_inT, p_ninT, p_ninK, p_ixL, p_ixT, p_ixK, p_ixG, p_ixR, p_put, p_slL, p_slT, p_lenL, p_lenT, p_lenS, p_intI, p_abs, p_max, p_min, p_divmod, p_tupT, p_tupL, p_tupR, p_all, p_any, p_repr, p_isi, p_app, p_idx, p_itL, p_itT, p_rng1, p_rng2, p_enmT, p_enmL, p_fmtS, p_fmtI, p_dlenI, p_dreprI, p_dboolI, p_dlenL, p_dlenT, p_dlenS, p_dreprL, p_dreprT, p_dreprS, p_dreprN, p_dreprB, p_dreprO, p_dboolN, p_dboolB, p_dboolL, p_strI, p_strS, oto_some, slTo_v, tst_bl, asInt_int, asBl_bl, asLst_l, asRef_r, asL_l, asStr_s, asExn_e, List.set_cons_zero, List.set_cons_succ, List.getElem?_cons_zero, List.getElem?_cons_succ, List.length_cons, List.length_nil, List.nil_append, List.cons_append, List.append_nil, List.getElem?_set_self, List.length_set, List.set_set, p_dzip, p_putA, asIns_i, tn_non, tn_bl, tn_int, tn_str, tn_tup, tn_lst, tn_dK, tn_ins, asTn_ty, asTn_glo, tru_bl, tru_non, tru_int, tru_lst, tru_tup, truP_bl, truP_non, truP_int, truP_lst, truP_tup, isNon_non, isNon_int, isNon_tup, isNon_lst, isNon_str, isNon_ins, seqD_tup, seqD_lst, insOf_ins, atI_0, atI_1, atI_2, atI_3, atI_4, ixN_0, ixN_1, ixN_2, ixN_3, ixN_4]
      exact ⟨fun z => by (cases z), fun _ => ⟨fun z => by (cases z), fun _ => ⟨fun z => by (cases z), fun _ => ⟨rfl, rfl⟩⟩⟩⟩
  | some v =>
    cases l with
    | none =>
      unfold oD SP.lb
      try simp only [w_var, w_int, w_bl, w_non, w_str, w_gl, w_ty, w_bin, w_un, w_cmp, w_chain, w_and, w_or, w_not, w_ife, ev_nil, ev_cons, w_tup, w_lst, w_lstM, w_ix, part_nop, w_sl, w_bi, w_call, w_callS, w_meth, w_op, w_attr, w_app, w_idx, w_dzip, w_lc, w_lcM, w_tru, w_nott, w_andt, w_ort, i_itv, i_rng1, i_rng2, i_enm, b_nil, b_cons, s_exp, s_doc, s_pass, s_brk, s_cont, s_never, s_set, s_asg, g_var, g_sub, g_tup, gs_nil, gs_cons, s_par, s_ret, s_retF, s_retN, s_ite, s_for, for_nil, s_attr, w_prp, w_dun, w_fmt, w_fst, js_nil, js_cons, w_xisi, s_raise0, s_par3, p_add, p_addS, p_addT, p_addL, p_addB, p_sub, p_mul, p_mulL, p_fdiv, p_mod, p_pow, p_neg, p_eqI, p_neI, p_eqS, p_neS, p_eqB, p_lt, p_le, p_gt, p_ge, p_isN, p_isNN, p_isB, p_isNB, p_inT, p_ninT, p_ninK, p_ixL, p_ixT, p_ixK, p_ixG, p_ixR, p_put, p_slL, p_slT, p_lenL, p_lenT, p_lenS, p_intI, p_abs, p_max, p_min, p_divmod, p_tupT, p_tupL, p_tupR, p_all, p_any, p_repr, p_isi, p_app, p_idx, p_itL, p_itT, p_rng1, p_rng2, p_enmT, p_enmL, p_fmtS, p_fmtI, p_dlenI, p_dreprI, p_dboolI, p_dlenL, p_dlenT, p_dlenS, p_dreprL, p_dreprT, p_dreprS, p_dreprN, p_dreprB, p_dreprO, p_dboolN, p_dboolB, p_dboolL, p_strI, p_strS, oto_some, slTo_v, tst_bl, asInt_int, asBl_bl, asLst_l, asRef_r, asL_l, asStr_s, asExn_e, List.set_cons_zero, List.set_cons_succ, List.getElem?_cons_zero, List.getElem?_cons_succ, List.length_cons, List.length_nil, List.nil_append, List.cons_append, List.append_nil, List.getElem?_set_self, List.length_set, List.set_set, p_dzip, p_putA, asIns_i, tn_non, tn_bl, tn_int, tn_str, tn_tup, tn_lst, tn_dK, tn_ins, asTn_ty, asTn_glo, tru_bl, tru_non, tru_int, tru_lst, tru_tup, truP_bl, truP_non, truP_int, truP_lst, truP_tup, isNon_non, isNon_int, isNon_tup, isNon_lst, isNon_str, isNon_ins, seqD_tup, seqD_lst, insOf_ins, atI_0, atI_1, atI_2, atI_3, atI_4, ixN_0, ixN_1, ixN_2, ixN_3, ixN_4]
      exact ⟨fun _ => ⟨fun _ => ⟨rfl, rfl⟩, fun z => by (cases z)⟩, fun z => by (cases z)⟩
    | some u =>
      unfold oD SP.lb
      try simp only [w_var, w_int, w_bl, w_non, w_str, w_gl, w_ty, w_bin, w_un, w_cmp, w_chain, w_and, w_or, w_not, w_ife, ev_nil, ev_cons, w_tup, w_lst, w_lstM, w_ix, part_nop, w_sl, w_bi, w_call, w_callS, w_meth, w_op, w_attr, w_app, w_idx, w_dzip, w_lc, w_lcM, w_tru, w_nott, w_andt, w_ort, i_itv, i_rng1, i_rng2, i_enm, b_nil, b_cons, s_exp, s_doc, s_pass, s_brk, s_cont, s_never, s_set, s_asg, g_var, g_sub, g_tup, gs_nil, gs_cons, s_par, s_ret, s_retF, s_retN, s_ite, s_for, for_nil, s_attr, w_prp, w_dun, w_fmt, w_fst, js_nil, js_cons, w_xisi, s_raise0, s_par3, p_add, p_addS, p_addT, p_addL, p_addB, p_sub, p_mul, p_mulL, p_fdiv, p_mod, p_pow, p_neg, p_eqI, p_neI, p_eqS, p_neS, p_eqB, p_lt, p_le, p_gt, p_ge, p_isN, p_isNN, p_isB, p_isNB, p_inT, p_ninT, p_ninK, p_ixL, p_ixT, p_ixK, p_ixG, p_ixR, p_put, p_slL, p_slT, p_lenL, p_lenT, p_lenS, p_intI, p_abs, p_max, p_min, p_divmod, p_tupT, p_tupL, p_tupR, p_all, p_any, p_repr, p_isi, p_app, p_idx, p_itL, p_itT, p_rng1, p_rng2, p_enmT, p_enmL, p_fmtS, p_fmtI, p_dlenI, p_dreprI, p_dboolI, p_dlenL, p_dlenT, p_dlenS, p_dreprL, p_dreprT, p_dreprS, p_dreprN, p_dreprB, p_dreprO, p_dboolN, p_dboolB, p_dboolL, p_strI, p_strS, oto_some, slTo_v, tst_bl, asInt_int, asBl_bl, asLst_l, asRef_r, asL_l, asStr_s, asExn_e, List.set_cons_zero, List.set_cons_succ, List.getElem?_cons_zero, List.getElem?_cons_succ, List.length_cons, List.length_nil, List.nil_append, List.cons_append, List.append_nil, List.getElem?_set_self, List.length_set, List.set_set, p_dzip, p_putA, asIns_i, tn_non, tn_bl, tn_int, tn_str, tn_tup, tn_lst, tn_dK, tn_ins, asTn_ty, asTn_glo, tru_bl, tru_non, tru_int, tru_lst, tru_tup, truP_bl, truP_non, truP_int, truP_lst, truP_tup, isNon_non, isNon_int, isNon_tup, isNon_lst, isNon_str, isNon_ins, seqD_tup, seqD_lst, insOf_ins, atI_0, atI_1, atI_2, atI_3, atI_4, ixN_0, ixN_1, ixN_2, ixN_3, ixN_4]
      refine ⟨fun z => by (cases z), fun _ => ⟨fun _ => ⟨fun q => ⟨?_, rfl⟩, fun q => ⟨?_, rfl⟩⟩, fun z => by (cases z)⟩⟩
      · rw [if_pos (of_decide_eq_true q)]
      · rw [if_neg (of_decide_eq_false q)]
def stepD (o : Option SP.Tab) : DV.D := match o with
  | some t => tabD t
  | none => .non
theorem wrest {t : SP.Tab} {x y : Nat} {z : Int} (hx : x < 5) (hy : y < 5) :
    (denB lw.tb (S (k + 1)) (is6.drop 1) [.v (tabD t), .v (.int x), .v (.int y), .v (.int z), .un, .un, .un, .un, .un] st).to (endPo fun d st' => d = (if folB t x y z then tabD t else tabD (SP.upd t x y z)) ∧ FrA st st') := by
  unfold is6
  rw [List.drop_succ_cons, List.drop_zero]
  try simp only [w_var, w_int, w_bl, w_non, w_str, w_gl, w_ty, w_bin, w_un, w_cmp, w_chain, w_and, w_or, w_not, w_ife, ev_nil, ev_cons, w_tup, w_lst, w_lstM, w_ix, part_nop, w_sl, w_bi, w_call, w_callS, w_meth, w_op, w_attr, w_app, w_idx, w_dzip, w_lc, w_lcM, w_tru, w_nott, w_andt, w_ort, i_itv, i_rng1, i_rng2, i_enm, b_nil, b_cons, s_exp, s_doc, s_pass, s_brk, s_cont, s_never, s_set, s_asg, g_var, g_sub, g_tup, gs_nil, gs_cons, s_par, s_ret, s_retF, s_retN, s_ite, s_for, for_nil, s_attr, w_prp, w_dun, w_fmt, w_fst, js_nil, js_cons, w_xisi, s_raise0, s_par3, p_add, p_addS, p_addT, p_addL, p_addB, p_sub, p_mul, p_mulL, p_fdiv, p_mod, p_pow, p_neg, p_eqI, p_neI, p_eqS, p_neS, p_eqB, p_lt, p_le, p_gt, p_ge, p_isN, p_isNN, p_isB, p_isNB, p_inT, p_ninT, p_ninK, p_ixL, p_ixT, p_ixK, p_ixG, p_ixR, p_put, p_slL, p_slT, p_lenL, p_lenT, p_lenS, p_intI, p_abs, p_max, p_min, p_divmod, p_tupT, p_tupL, p_tupR, p_all, p_any, p_repr, p_isi, p_app, p_idx, p_itL, p_itT, p_rng1, p_rng2, p_enmT, p_enmL, p_fmtS, p_fmtI, p_dlenI, p_dreprI, p_dboolI, p_dlenL, p_dlenT, p_dlenS, p_dreprL, p_dreprT, p_dreprS, p_dreprN, p_dreprB, p_dreprO, p_dboolN, p_dboolB, p_dboolL, p_strI, p_strS, oto_some, slTo_v, tst_bl, asInt_int, asBl_bl, asLst_l, asRef_r, asL_l, asStr_s, asExn_e, List.set_cons_zero, List.set_cons_succ, List.getElem?_cons_zero, List.getElem?_cons_succ, List.length_cons, List.length_nil, List.nil_append, List.cons_append, List.append_nil, List.getElem?_set_self, List.length_set, List.set_set, p_dzip, p_putA, asIns_i, tn_non, tn_bl, tn_int, tn_str, tn_tup, tn_lst, tn_dK, tn_ins, asTn_ty, asTn_glo, tru_bl, tru_non, tru_int, tru_lst, tru_tup, truP_bl, truP_non, truP_int, truP_lst, truP_tup, isNon_non, isNon_int, isNon_tup, isNon_lst, isNon_str, isNon_ins, seqD_tup, seqD_lst, insOf_ins, atI_0, atI_1, atI_2, atI_3, atI_4, ixN_0, ixN_1, ixN_2, ixN_3, ixN_4]
  refine ⟨True.intro, R.to_mono (follows4 hx hy) ?_⟩
  rintro _ st1 ⟨rfl, e1⟩
  have e1 := e1.symm
  subst e1
  try simp only [w_var, w_int, w_bl, w_non, w_str, w_gl, w_ty, w_bin, w_un, w_cmp, w_chain, w_and, w_or, w_not, w_ife, ev_nil, ev_cons, w_tup, w_lst, w_lstM, w_ix, part_nop, w_sl, w_bi, w_call, w_callS, w_meth, w_op, w_attr, w_app, w_idx, w_dzip, w_lc, w_lcM, w_tru, w_nott, w_andt, w_ort, i_itv, i_rng1, i_rng2, i_enm, b_nil, b_cons, s_exp, s_doc, s_pass, s_brk, s_cont, s_never, s_set, s_asg, g_var, g_sub, g_tup, gs_nil, gs_cons, s_par, s_ret, s_retF, s_retN, s_ite, s_for, for_nil, s_attr, w_prp, w_dun, w_fmt, w_fst, js_nil, js_cons, w_xisi, s_raise0, s_par3, p_add, p_addS, p_addT, p_addL, p_addB, p_sub, p_mul, p_mulL, p_fdiv, p_mod, p_pow, p_neg, p_eqI, p_neI, p_eqS, p_neS, p_eqB, p_lt, p_le, p_gt, p_ge, p_isN, p_isNN, p_isB, p_isNB, p_inT, p_ninT, p_ninK, p_ixL, p_ixT, p_ixK, p_ixG, p_ixR, p_put, p_slL, p_slT, p_lenL, p_lenT, p_lenS, p_intI, p_abs, p_max, p_min, p_divmod, p_tupT, p_tupL, p_tupR, p_all, p_any, p_repr, p_isi, p_app, p_idx, p_itL, p_itT, p_rng1, p_rng2, p_enmT, p_enmL, p_fmtS, p_fmtI, p_dlenI, p_dreprI, p_dboolI, p_dlenL, p_dlenT, p_dlenS, p_dreprL, p_dreprT, p_dreprS, p_dreprN, p_dreprB, p_dreprO, p_dboolN, p_dboolB, p_dboolL, p_strI, p_strS, oto_some, slTo_v, tst_bl, asInt_int, asBl_bl, asLst_l, asRef_r, asL_l, asStr_s, asExn_e, List.set_cons_zero, List.set_cons_succ, List.getElem?_cons_zero, List.getElem?_cons_succ, List.length_cons, List.length_nil, List.nil_append, List.cons_append, List.append_nil, List.getElem?_set_self, List.length_set, List.set_set, p_dzip, p_putA, asIns_i, tn_non, tn_bl, tn_int, tn_str, tn_tup, tn_lst, tn_dK, tn_ins, asTn_ty, asTn_glo, tru_bl, tru_non, tru_int, tru_lst, tru_tup, truP_bl, truP_non, truP_int, truP_lst, truP_tup, isNon_non, isNon_int, isNon_tup, isNon_lst, isNon_str, isNon_ins, seqD_tup, seqD_lst, insOf_ins, atI_0, atI_1, atI_2, atI_3, atI_4, ixN_0, ixN_1, ixN_2, ixN_3, ixN_4]
  refine ⟨fun q => ⟨by rw [if_pos q], .refl _⟩, fun q => ⟨by decide, ?_⟩⟩
  rw [if_neg (by rw [q]; simp)]
  unfold tabD
  try simp only [w_var, w_int, w_bl, w_non, w_str, w_gl, w_ty, w_bin, w_un, w_cmp, w_chain, w_and, w_or, w_not, w_ife, ev_nil, ev_cons, w_tup, w_lst, w_lstM, w_ix, part_nop, w_sl, w_bi, w_call, w_callS, w_meth, w_op, w_attr, w_app, w_idx, w_dzip, w_lc, w_lcM, w_tru, w_nott, w_andt, w_ort, i_itv, i_rng1, i_rng2, i_enm, b_nil, b_cons, s_exp, s_doc, s_pass, s_brk, s_cont, s_never, s_set, s_asg, g_var, g_sub, g_tup, gs_nil, gs_cons, s_par, s_ret, s_retF, s_retN, s_ite, s_for, for_nil, s_attr, w_prp, w_dun, w_fmt, w_fst, js_nil, js_cons, w_xisi, s_raise0, s_par3, p_add, p_addS, p_addT, p_addL, p_addB, p_sub, p_mul, p_mulL, p_fdiv, p_mod, p_pow, p_neg, p_eqI, p_neI, p_eqS, p_neS, p_eqB, p_lt, p_le, p_gt, p_ge, p_isN, p_isNN, p_isB, p_isNB, p_inT, p_ninT, p_ninK, p_ixL, p_ixT, p_ixK, p_ixG, p_ixR, p_put, p_slL, p_slT, p_lenL, p_lenT, p_lenS, p_intI, p_abs, p_max, p_min, p_divmod, p_tupT, p_tupL, p_tupR, p_all, p_any, p_repr, p_isi, p_app, p_idx, p_itL, p_itT, p_rng1, p_rng2, p_enmT, p_enmL, p_fmtS, p_fmtI, p_dlenI, p_dreprI, p_dboolI, p_dlenL, p_dlenT, p_dlenS, p_dreprL, p_dreprT, p_dreprS, p_dreprN, p_dreprB, p_dreprO, p_dboolN, p_dboolB, p_dboolL, p_strI, p_strS, oto_some, slTo_v, tst_bl, asInt_int, asBl_bl, asLst_l, asRef_r, asL_l, asStr_s, asExn_e, List.set_cons_zero, List.set_cons_succ, List.getElem?_cons_zero, List.getElem?_cons_succ, List.length_cons, List.length_nil, List.nil_append, List.cons_append, List.append_nil, List.getElem?_set_self, List.length_set, List.set_set, p_dzip, p_putA, asIns_i, tn_non, tn_bl, tn_int, tn_str, tn_tup, tn_lst, tn_dK, tn_ins, asTn_ty, asTn_glo, tru_bl, tru_non, tru_int, tru_lst, tru_tup, truP_bl, truP_non, truP_int, truP_lst, truP_tup, isNon_non, isNon_int, isNon_tup, isNon_lst, isNon_str, isNon_ins, seqD_tup, seqD_lst, insOf_ins, atI_0, atI_1, atI_2, atI_3, atI_4, ixN_0, ixN_1, ixN_2, ixN_3, ixN_4]
  refine for_inv (fun ds ρ st' => ∃ (o p q w : Sl) (ps ys : List Nat), ρ = [.v (.tup ((List.range 5).map (rowD t))), .v (.int x), .v (.int y), .v (.int z), .v (.ref st.length), o, p, q, w] ∧ ps ++ ys = List.range 5 ∧ ds = ys.map (rowD t) ∧ st'[st.length]? = some (.lst (ps.map (rowD (SP.upd t x y z)))) ∧ FrA st st') ?_ ?_ _ _ _ ⟨_, _, _, _, [], List.range 5, rfl, rfl, rfl, (by rw [List.getElem?_append_right (Nat.le_refl _), Nat.sub_self]; rfl), .app _ _⟩
  · rintro d ds ρ st' ⟨o, p, q, w, ps, ys, rfl, a1, a2, a4, a5⟩
    cases ys with
    | nil => cases a2
    | cons r ys =>
      simp only [List.map_cons, List.cons.injEq] at a2
      obtain ⟨rfl, rfl⟩ := a2
      have hl : st.length < st'.length := (List.getElem?_eq_some_iff.mp a4).1
      have l5 : ps.length + (ys.length + 1) = 5 := by
        have := congrArg List.length a1
        simpa using this
      have sz : (ps.map (rowD (SP.upd t x y z))).length < sizeLine := Nat.lt_of_lt_of_le (show (ps.map (rowD (SP.upd t x y z))).length < 5 by rw [List.length_map]; omega) (by decide)
      have nxt : ∀ (e : DV.D) (o p q w : Sl), e = rowD (SP.upd t x y z) r → ∃ (o' p' q' w' : Sl) (ps' ys' : List Nat), ([.v (.tup ((List.range 5).map (rowD t))), .v (.int x), .v (.int y), .v (.int z), .v (.ref st.length), o, p, q, w] : DV.Env) = [.v (.tup ((List.range 5).map (rowD t))), .v (.int x), .v (.int y), .v (.int z), .v (.ref st.length), o', p', q', w'] ∧ ps' ++ ys' = List.range 5 ∧ ys.map (rowD t) = ys'.map (rowD t) ∧ (st'.set st.length (.lst (ps.map (rowD (SP.upd t x y z)) ++ [e])))[st.length]? = some (.lst (ps'.map (rowD (SP.upd t x y z)))) ∧ FrA st (st'.set st.length (.lst (ps.map (rowD (SP.upd t x y z)) ++ [e]))) := fun e o p q w he =>
        ⟨o, p, q, w, ps ++ [r], ys, rfl, by rw [← a1]; simp, rfl, by rw [List.getElem?_set_self hl, he, List.map_append]; rfl, a5.set (Nat.le_refl _)⟩
      have en : oD none = DV.D.non := rfl
      have es : ∀ v, oD (some v) = DV.D.int v := fun _ => rfl
      unfold rowD at nxt ⊢
      try simp only [w_var, w_int, w_bl, w_non, w_str, w_gl, w_ty, w_bin, w_un, w_cmp, w_chain, w_and, w_or, w_not, w_ife, ev_nil, ev_cons, w_tup, w_lst, w_lstM, w_ix, part_nop, w_sl, w_bi, w_call, w_callS, w_meth, w_op, w_attr, w_app, w_idx, w_dzip, w_lc, w_lcM, w_tru, w_nott, w_andt, w_ort, i_itv, i_rng1, i_rng2, i_enm, b_nil, b_cons, s_exp, s_doc, s_pass, s_brk, s_cont, s_never, s_set, s_asg, g_var, g_sub, g_tup, gs_nil, gs_cons, s_par, s_ret, s_retF, s_retN, s_ite, s_for, for_nil, s_attr, w_prp, w_dun, w_fmt, w_fst, js_nil, js_cons, w_xisi, s_raise0, s_par3, p_add, p_addS, p_addT, p_addL, p_addB, p_sub, p_mul, p_mulL, p_fdiv, p_mod, p_pow, p_neg, p_eqI, p_neI, p_eqS, p_neS, p_eqB, p_lt, p_le, p_gt, p_ge, p_isN, p_isNN, p_isB, p_isNB, p_inT, p_ninT, p_ninK, p_ixL, p_ixT, p_ixK, p_ixG, p_ixR, p_put, p_slL, p_slT, p_lenL, p_lenT, p_lenS, p_intI, p_abs, p_max, p_min, p_divmod, p_tupT, p_tupL, p_tupR, p_all, p_any, p_repr, p_isi, p_app, p_idx, p_itL, p_itT, p_rng1, p_rng2, p_enmT, p_enmL, p_fmtS, p_fmtI, p_dlenI, p_dreprI, p_dboolI, p_dlenL, p_dlenT, p_dlenS, p_dreprL, p_dreprT, p_dreprS, p_dreprN, p_dreprB, p_dreprO, p_dboolN, p_dboolB, p_dboolL, p_strI, p_strS, oto_some, slTo_v, tst_bl, asInt_int, asBl_bl, asLst_l, asRef_r, asL_l, asStr_s, asExn_e, List.set_cons_zero, List.set_cons_succ, List.getElem?_cons_zero, List.getElem?_cons_succ, List.length_cons, List.length_nil, List.nil_append, List.cons_append, List.append_nil, at_r hx, a4, List.getElem?_set_self, List.length_set, List.set_set, p_dzip, p_putA, asIns_i, tn_non, tn_bl, tn_int, tn_str, tn_tup, tn_lst, tn_dK, tn_ins, asTn_ty, asTn_glo, tru_bl, tru_non, tru_int, tru_lst, tru_tup, truP_bl, truP_non, truP_int, truP_lst, truP_tup, isNon_non, isNon_int, isNon_tup, isNon_lst, isNon_str, isNon_ins, seqD_tup, seqD_lst, insOf_ins, atI_0, atI_1, atI_2, atI_3, atI_4, ixN_0, ixN_1, ixN_2, ixN_3, ixN_4]
      cases e : t r x with
      | none =>
        try simp only [w_var, w_int, w_bl, w_non, w_str, w_gl, w_ty, w_bin, w_un, w_cmp, w_chain, w_and, w_or, w_not, w_ife, ev_nil, ev_cons, w_tup, w_lst, w_lstM, w_ix, part_nop, w_sl, w_bi, w_call, w_callS, w_meth, w_op, w_attr, w_app, w_idx, w_dzip, w_lc, w_lcM, w_tru, w_nott, w_andt, w_ort, i_itv, i_rng1, i_rng2, i_enm, b_nil, b_cons, s_exp, s_doc, s_pass, s_brk, s_cont, s_never, s_set, s_asg, g_var, g_sub, g_tup, gs_nil, gs_cons, s_par, s_ret, s_retF, s_retN, s_ite, s_for, for_nil, s_attr, w_prp, w_dun, w_fmt, w_fst, js_nil, js_cons, w_xisi, s_raise0, s_par3, p_add, p_addS, p_addT, p_addL, p_addB, p_sub, p_mul, p_mulL, p_fdiv, p_mod, p_pow, p_neg, p_eqI, p_neI, p_eqS, p_neS, p_eqB, p_lt, p_le, p_gt, p_ge, p_isN, p_isNN, p_isB, p_isNB, p_inT, p_ninT, p_ninK, p_ixL, p_ixT, p_ixK, p_ixG, p_ixR, p_put, p_slL, p_slT, p_lenL, p_lenT, p_lenS, p_intI, p_abs, p_max, p_min, p_divmod, p_tupT, p_tupL, p_tupR, p_all, p_any, p_repr, p_isi, p_app, p_idx, p_itL, p_itT, p_rng1, p_rng2, p_enmT, p_enmL, p_fmtS, p_fmtI, p_dlenI, p_dreprI, p_dboolI, p_dlenL, p_dlenT, p_dlenS, p_dreprL, p_dreprT, p_dreprS, p_dreprN, p_dreprB, p_dreprO, p_dboolN, p_dboolB, p_dboolL, p_strI, p_strS, oto_some, slTo_v, tst_bl, asInt_int, asBl_bl, asLst_l, asRef_r, asL_l, asStr_s, asExn_e, List.set_cons_zero, List.set_cons_succ, List.getElem?_cons_zero, List.getElem?_cons_succ, List.length_cons, List.length_nil, List.nil_append, List.cons_append, List.append_nil, en, a4, List.getElem?_set_self, List.length_set, List.set_set, p_dzip, p_putA, asIns_i, tn_non, tn_bl, tn_int, tn_str, tn_tup, tn_lst, tn_dK, tn_ins, asTn_ty, asTn_glo, tru_bl, tru_non, tru_int, tru_lst, tru_tup, truP_bl, truP_non, truP_int, truP_lst, truP_tup, isNon_non, isNon_int, isNon_tup, isNon_lst, isNon_str, isNon_ins, seqD_tup, seqD_lst, insOf_ins, atI_0, atI_1, atI_2, atI_3, atI_4, ixN_0, ixN_1, ixN_2, ixN_3, ixN_4]
        refine ⟨fun _ => ⟨sz, nxt _ _ _ _ _ ?_⟩, fun z => by (cases z)⟩
        congr 1
        refine List.map_congr_left fun c _ => ?_
        show oD (t r c) = oD (SP.upd t x y z r c)
        unfold SP.upd
        rw [e]
      | some a =>
        try simp only [w_var, w_int, w_bl, w_non, w_str, w_gl, w_ty, w_bin, w_un, w_cmp, w_chain, w_and, w_or, w_not, w_ife, ev_nil, ev_cons, w_tup, w_lst, w_lstM, w_ix, part_nop, w_sl, w_bi, w_call, w_callS, w_meth, w_op, w_attr, w_app, w_idx, w_dzip, w_lc, w_lcM, w_tru, w_nott, w_andt, w_ort, i_itv, i_rng1, i_rng2, i_enm, b_nil, b_cons, s_exp, s_doc, s_pass, s_brk, s_cont, s_never, s_set, s_asg, g_var, g_sub, g_tup, gs_nil, gs_cons, s_par, s_ret, s_retF, s_retN, s_ite, s_for, for_nil, s_attr, w_prp, w_dun, w_fmt, w_fst, js_nil, js_cons, w_xisi, s_raise0, s_par3, p_add, p_addS, p_addT, p_addL, p_addB, p_sub, p_mul, p_mulL, p_fdiv, p_mod, p_pow, p_neg, p_eqI, p_neI, p_eqS, p_neS, p_eqB, p_lt, p_le, p_gt, p_ge, p_isN, p_isNN, p_isB, p_isNB, p_inT, p_ninT, p_ninK, p_ixL, p_ixT, p_ixK, p_ixG, p_ixR, p_put, p_slL, p_slT, p_lenL, p_lenT, p_lenS, p_intI, p_abs, p_max, p_min, p_divmod, p_tupT, p_tupL, p_tupR, p_all, p_any, p_repr, p_isi, p_app, p_idx, p_itL, p_itT, p_rng1, p_rng2, p_enmT, p_enmL, p_fmtS, p_fmtI, p_dlenI, p_dreprI, p_dboolI, p_dlenL, p_dlenT, p_dlenS, p_dreprL, p_dreprT, p_dreprS, p_dreprN, p_dreprB, p_dreprO, p_dboolN, p_dboolB, p_dboolL, p_strI, p_strS, oto_some, slTo_v, tst_bl, asInt_int, asBl_bl, asLst_l, asRef_r, asL_l, asStr_s, asExn_e, List.set_cons_zero, List.set_cons_succ, List.getElem?_cons_zero, List.getElem?_cons_succ, List.length_cons, List.length_nil, List.nil_append, List.cons_append, List.append_nil, es, a4, List.length_map, List.length_range, List.getElem?_set_self, List.length_set, List.set_set, p_dzip, p_putA, asIns_i, tn_non, tn_bl, tn_int, tn_str, tn_tup, tn_lst, tn_dK, tn_ins, asTn_ty, asTn_glo, tru_bl, tru_non, tru_int, tru_lst, tru_tup, truP_bl, truP_non, truP_int, truP_lst, truP_tup, isNon_non, isNon_int, isNon_tup, isNon_lst, isNon_str, isNon_ins, seqD_tup, seqD_lst, insOf_ins, atI_0, atI_1, atI_2, atI_3, atI_4, ixN_0, ixN_1, ixN_2, ixN_3, ixN_4]
        refine ⟨fun z => by (cases z), fun _ => ⟨by decide, True.intro, by decide, ?_⟩⟩
        refine lc_map (f := fun i : Nat => DV.D.int i) (g := fun c : Nat => oD (SP.upd t x y z r c)) (List.range 5) 0 ?_ (by decide) [] rfl ?_
        · intro c hc
          have hc : c < 5 := List.mem_range.mp hc
          try simp only [w_var, w_int, w_bl, w_non, w_str, w_gl, w_ty, w_bin, w_un, w_cmp, w_chain, w_and, w_or, w_not, w_ife, ev_nil, ev_cons, w_tup, w_lst, w_lstM, w_ix, part_nop, w_sl, w_bi, w_call, w_callS, w_meth, w_op, w_attr, w_app, w_idx, w_dzip, w_lc, w_lcM, w_tru, w_nott, w_andt, w_ort, i_itv, i_rng1, i_rng2, i_enm, b_nil, b_cons, s_exp, s_doc, s_pass, s_brk, s_cont, s_never, s_set, s_asg, g_var, g_sub, g_tup, gs_nil, gs_cons, s_par, s_ret, s_retF, s_retN, s_ite, s_for, for_nil, s_attr, w_prp, w_dun, w_fmt, w_fst, js_nil, js_cons, w_xisi, s_raise0, s_par3, p_add, p_addS, p_addT, p_addL, p_addB, p_sub, p_mul, p_mulL, p_fdiv, p_mod, p_pow, p_neg, p_eqI, p_neI, p_eqS, p_neS, p_eqB, p_lt, p_le, p_gt, p_ge, p_isN, p_isNN, p_isB, p_isNB, p_inT, p_ninT, p_ninK, p_ixL, p_ixT, p_ixK, p_ixG, p_ixR, p_put, p_slL, p_slT, p_lenL, p_lenT, p_lenS, p_intI, p_abs, p_max, p_min, p_divmod, p_tupT, p_tupL, p_tupR, p_all, p_any, p_repr, p_isi, p_app, p_idx, p_itL, p_itT, p_rng1, p_rng2, p_enmT, p_enmL, p_fmtS, p_fmtI, p_dlenI, p_dreprI, p_dboolI, p_dlenL, p_dlenT, p_dlenS, p_dreprL, p_dreprT, p_dreprS, p_dreprN, p_dreprB, p_dreprO, p_dboolN, p_dboolB, p_dboolL, p_strI, p_strS, oto_some, slTo_v, tst_bl, asInt_int, asBl_bl, asLst_l, asRef_r, asL_l, asStr_s, asExn_e, List.set_cons_zero, List.set_cons_succ, List.getElem?_cons_zero, List.getElem?_cons_succ, List.length_cons, List.length_nil, List.nil_append, List.cons_append, List.append_nil, Tgd.set, wipeD, at_r hc, at_r hy, List.getElem?_set_self, List.length_set, List.set_set, p_dzip, p_putA, asIns_i, tn_non, tn_bl, tn_int, tn_str, tn_tup, tn_lst, tn_dK, tn_ins, asTn_ty, asTn_glo, tru_bl, tru_non, tru_int, tru_lst, tru_tup, truP_bl, truP_non, truP_int, truP_lst, truP_tup, isNon_non, isNon_int, isNon_tup, isNon_lst, isNon_str, isNon_ins, seqD_tup, seqD_lst, insOf_ins, atI_0, atI_1, atI_2, atI_3, atI_4, ixN_0, ixN_1, ixN_2, ixN_3, ixN_4]
          refine ⟨True.intro, R.to_mono least5 ?_⟩
          rintro d st3 ⟨c1, c2⟩
          refine ⟨?_, c2⟩
          rw [c1]
          unfold SP.upd
          rw [e]
        · try simp only [w_var, w_int, w_bl, w_non, w_str, w_gl, w_ty, w_bin, w_un, w_cmp, w_chain, w_and, w_or, w_not, w_ife, ev_nil, ev_cons, w_tup, w_lst, w_lstM, w_ix, part_nop, w_sl, w_bi, w_call, w_callS, w_meth, w_op, w_attr, w_app, w_idx, w_dzip, w_lc, w_lcM, w_tru, w_nott, w_andt, w_ort, i_itv, i_rng1, i_rng2, i_enm, b_nil, b_cons, s_exp, s_doc, s_pass, s_brk, s_cont, s_never, s_set, s_asg, g_var, g_sub, g_tup, gs_nil, gs_cons, s_par, s_ret, s_retF, s_retN, s_ite, s_for, for_nil, s_attr, w_prp, w_dun, w_fmt, w_fst, js_nil, js_cons, w_xisi, s_raise0, s_par3, p_add, p_addS, p_addT, p_addL, p_addB, p_sub, p_mul, p_mulL, p_fdiv, p_mod, p_pow, p_neg, p_eqI, p_neI, p_eqS, p_neS, p_eqB, p_lt, p_le, p_gt, p_ge, p_isN, p_isNN, p_isB, p_isNB, p_inT, p_ninT, p_ninK, p_ixL, p_ixT, p_ixK, p_ixG, p_ixR, p_put, p_slL, p_slT, p_lenL, p_lenT, p_lenS, p_intI, p_abs, p_max, p_min, p_divmod, p_tupT, p_tupL, p_tupR, p_all, p_any, p_repr, p_isi, p_app, p_idx, p_itL, p_itT, p_rng1, p_rng2, p_enmT, p_enmL, p_fmtS, p_fmtI, p_dlenI, p_dreprI, p_dboolI, p_dlenL, p_dlenT, p_dlenS, p_dreprL, p_dreprT, p_dreprS, p_dreprN, p_dreprB, p_dreprO, p_dboolN, p_dboolB, p_dboolL, p_strI, p_strS, oto_some, slTo_v, tst_bl, asInt_int, asBl_bl, asLst_l, asRef_r, asL_l, asStr_s, asExn_e, List.set_cons_zero, List.set_cons_succ, List.getElem?_cons_zero, List.getElem?_cons_succ, List.length_cons, List.length_nil, List.nil_append, List.cons_append, List.append_nil, a4, List.getElem?_set_self, List.length_set, List.set_set, p_dzip, p_putA, asIns_i, tn_non, tn_bl, tn_int, tn_str, tn_tup, tn_lst, tn_dK, tn_ins, asTn_ty, asTn_glo, tru_bl, tru_non, tru_int, tru_lst, tru_tup, truP_bl, truP_non, truP_int, truP_lst, truP_tup, isNon_non, isNon_int, isNon_tup, isNon_lst, isNon_str, isNon_ins, seqD_tup, seqD_lst, insOf_ins, atI_0, atI_1, atI_2, atI_3, atI_4, ixN_0, ixN_1, ixN_2, ixN_3, ixN_4]
          exact ⟨sz, nxt _ _ _ _ _ rfl⟩
  · rintro ρ st' ⟨o, p, q, w, ps, ys, rfl, a1, a2, a4, a5⟩
    cases ys with
    | cons r ys => cases a2
    | nil =>
      try simp only [w_var, w_int, w_bl, w_non, w_str, w_gl, w_ty, w_bin, w_un, w_cmp, w_chain, w_and, w_or, w_not, w_ife, ev_nil, ev_cons, w_tup, w_lst, w_lstM, w_ix, part_nop, w_sl, w_bi, w_call, w_callS, w_meth, w_op, w_attr, w_app, w_idx, w_dzip, w_lc, w_lcM, w_tru, w_nott, w_andt, w_ort, i_itv, i_rng1, i_rng2, i_enm, b_nil, b_cons, s_exp, s_doc, s_pass, s_brk, s_cont, s_never, s_set, s_asg, g_var, g_sub, g_tup, gs_nil, gs_cons, s_par, s_ret, s_retF, s_retN, s_ite, s_for, for_nil, s_attr, w_prp, w_dun, w_fmt, w_fst, js_nil, js_cons, w_xisi, s_raise0, s_par3, p_add, p_addS, p_addT, p_addL, p_addB, p_sub, p_mul, p_mulL, p_fdiv, p_mod, p_pow, p_neg, p_eqI, p_neI, p_eqS, p_neS, p_eqB, p_lt, p_le, p_gt, p_ge, p_isN, p_isNN, p_isB, p_isNB, p_inT, p_ninT, p_ninK, p_ixL, p_ixT, p_ixK, p_ixG, p_ixR, p_put, p_slL, p_slT, p_lenL, p_lenT, p_lenS, p_intI, p_abs, p_max, p_min, p_divmod, p_tupT, p_tupL, p_tupR, p_all, p_any, p_repr, p_isi, p_app, p_idx, p_itL, p_itT, p_rng1, p_rng2, p_enmT, p_enmL, p_fmtS, p_fmtI, p_dlenI, p_dreprI, p_dboolI, p_dlenL, p_dlenT, p_dlenS, p_dreprL, p_dreprT, p_dreprS, p_dreprN, p_dreprB, p_dreprO, p_dboolN, p_dboolB, p_dboolL, p_strI, p_strS, oto_some, slTo_v, tst_bl, asInt_int, asBl_bl, asLst_l, asRef_r, asL_l, asStr_s, asExn_e, List.set_cons_zero, List.set_cons_succ, List.getElem?_cons_zero, List.getElem?_cons_succ, List.length_cons, List.length_nil, List.nil_append, List.cons_append, List.append_nil, a4, List.getElem?_set_self, List.length_set, List.set_set, p_dzip, p_putA, asIns_i, tn_non, tn_bl, tn_int, tn_str, tn_tup, tn_lst, tn_dK, tn_ins, asTn_ty, asTn_glo, tru_bl, tru_non, tru_int, tru_lst, tru_tup, truP_bl, truP_non, truP_int, truP_lst, truP_tup, isNon_non, isNon_int, isNon_tup, isNon_lst, isNon_str, isNon_ins, seqD_tup, seqD_lst, insOf_ins, atI_0, atI_1, atI_2, atI_3, atI_4, ixN_0, ixN_1, ixN_2, ixN_3, ixN_4]
      rw [List.append_nil] at a1
      subst a1
      exact ⟨rfl, a5⟩
theorem wfact {t : SP.Tab} {x y : Nat} {z : Int} (hx : x < 5) (hy : y < 5) : (S (k + 2) 6 [] [tabD t, .int x, .int y, .int z] st).to fun d st' => d = stepD (SP.step t x y z) ∧ FrA st st' := by
  have rest := wrest (k := k) (st := st) (t := t) (z := z) hx hy
  have en : oD none = DV.D.non := rfl
  have es : ∀ v, oD (some v) = DV.D.int v := fun _ => rfl
  rw [e6]
  rw [show is6 = IS.ite (IE.andt (IE.cmp .IsNot (IE.ix (IE.ix (IE.var 0) (IE.var 2)) (IE.var 1)) IE.non) (IE.cmp .Lt (IE.bin .Add (IE.ix (IE.ix (IE.var 0) (IE.var 2)) (IE.var 1)) (IE.var 3)) (IE.int 0))) [IS.ret IE.non] [] :: is6.drop 1 from rfl, b_cons]
  generalize is6.drop 1 = tl at rest ⊢
  have g1 : atI ((List.range 5).map (rowD t)) (y : Int) = some (rowD t y) := at_r hy
  have g2 : atI ((List.range 5).map fun c => oD (t y c)) (x : Int) = some (oD (t y x)) := at_r hx
  -- what is behind the first test
  have go : (∀ v, t y x = some v → ¬ v + z < 0) → (denB lw.tb (S (k + 1)) tl [.v (tabD t), .v (.int x), .v (.int y), .v (.int z), .un, .un, .un, .un, .un] st).to (endPo fun d st' => d = stepD (SP.step t x y z) ∧ FrA st st') := fun hn => by
    refine RS.to_mono rest (fun _ _ q => ?_) (fun d st' q => ?_) (fun _ _ q => q) (fun _ _ q => q)
    all_goals
      refine ⟨?_, q.2⟩
      rw [q.1]
      have e2 : SP.step t x y z = (match t x y with
        | some u => if u ≤ z then some t else some (SP.upd t x y z)
        | none => some (SP.upd t x y z)) := by
        unfold SP.step
        cases q : t y x with
        | none => rfl
        | some v => dsimp only; rw [if_neg (hn v q)]; try rfl
      rw [e2]
      unfold folB
      cases t x y with
      | none => rfl
      | some u =>
        by_cases l : u ≤ z
        · simp [l, stepD]
        · simp [l, stepD]
  unfold tabD at go ⊢
  try simp only [w_var, w_int, w_bl, w_non, w_str, w_gl, w_ty, w_bin, w_un, w_cmp, w_chain, w_and, w_or, w_not, w_ife, ev_nil, ev_cons, w_tup, w_lst, w_lstM, w_ix, part_nop, w_sl, w_bi, w_call, w_callS, w_meth, w_op, w_attr, w_app, w_idx, w_dzip, w_lc, w_lcM, w_tru, w_nott, w_andt, w_ort, i_itv, i_rng1, i_rng2, i_enm, b_nil, b_cons, s_exp, s_doc, s_pass, s_brk, s_cont, s_never, s_set, s_asg, g_var, g_sub, g_tup, gs_nil, gs_cons, s_par, s_ret, s_retF, s_retN, s_ite, s_for, for_nil, s_attr, w_prp, w_dun, w_fmt, w_fst, js_nil, js_cons, w_xisi, s_raise0, s_par3, p_add, p_addS, p_addT, p_addL, p_addB, p_sub, p_mul, p_mulL, p_fdiv, p_mod, p_pow, p_neg, p_eqI, p_neI, p_eqS, p_neS, p_eqB, p_lt, p_le, p_gt, p_ge, p_isN, p_isNN, p_isB, p_isNB, p_inT, p_ninT, p_ninK, p_ixL, p_ixT, p_ixK, p_ixG, p_ixR, p_put, p_slL, p_slT, p_lenL, p_lenT, p_lenS, p_intI, p_abs, p_max, p_min, p_divmod, p_tupT, p_tupL, p_tupR, p_all, p_any, p_repr, p_isi, p_app, p_idx, p_itL, p_itT, p_rng1, p_rng2, p_enmT, p_enmL, p_fmtS, p_fmtI, p_dlenI, p_dreprI, p_dboolI, p_dlenL, p_dlenT, p_dlenS, p_dreprL, p_dreprT, p_dreprS, p_dreprN, p_dreprB, p_dreprO, p_dboolN, p_dboolB, p_dboolL, p_strI, p_strS, oto_some, slTo_v, tst_bl, asInt_int, asBl_bl, asLst_l, asRef_r, asL_l, asStr_s, asExn_e, List.set_cons_zero, List.set_cons_succ, List.getElem?_cons_zero, List.getElem?_cons_succ, List.length_cons, List.length_nil, List.nil_append, List.cons_append, List.append_nil, g1, List.getElem?_set_self, List.length_set, List.set_set, p_dzip, p_putA, asIns_i, tn_non, tn_bl, tn_int, tn_str, tn_tup, tn_lst, tn_dK, tn_ins, asTn_ty, asTn_glo, tru_bl, tru_non, tru_int, tru_lst, tru_tup, truP_bl, truP_non, truP_int, truP_lst, truP_tup, isNon_non, isNon_int, isNon_tup, isNon_lst, isNon_str, isNon_ins, seqD_tup, seqD_lst, insOf_ins, atI_0, atI_1, atI_2, atI_3, atI_4, ixN_0, ixN_1, ixN_2, ixN_3, ixN_4]
  unfold rowD at go ⊢
  try simp only [w_var, w_int, w_bl, w_non, w_str, w_gl, w_ty, w_bin, w_un, w_cmp, w_chain, w_and, w_or, w_not, w_ife, ev_nil, ev_cons, w_tup, w_lst, w_lstM, w_ix, part_nop, w_sl, w_bi, w_call, w_callS, w_meth, w_op, w_attr, w_app, w_idx, w_dzip, w_lc, w_lcM, w_tru, w_nott, w_andt, w_ort, i_itv, i_rng1, i_rng2, i_enm, b_nil, b_cons, s_exp, s_doc, s_pass, s_brk, s_cont, s_never, s_set, s_asg, g_var, g_sub, g_tup, gs_nil, gs_cons, s_par, s_ret, s_retF, s_retN, s_ite, s_for, for_nil, s_attr, w_prp, w_dun, w_fmt, w_fst, js_nil, js_cons, w_xisi, s_raise0, s_par3, p_add, p_addS, p_addT, p_addL, p_addB, p_sub, p_mul, p_mulL, p_fdiv, p_mod, p_pow, p_neg, p_eqI, p_neI, p_eqS, p_neS, p_eqB, p_lt, p_le, p_gt, p_ge, p_isN, p_isNN, p_isB, p_isNB, p_inT, p_ninT, p_ninK, p_ixL, p_ixT, p_ixK, p_ixG, p_ixR, p_put, p_slL, p_slT, p_lenL, p_lenT, p_lenS, p_intI, p_abs, p_max, p_min, p_divmod, p_tupT, p_tupL, p_tupR, p_all, p_any, p_repr, p_isi, p_app, p_idx, p_itL, p_itT, p_rng1, p_rng2, p_enmT, p_enmL, p_fmtS, p_fmtI, p_dlenI, p_dreprI, p_dboolI, p_dlenL, p_dlenT, p_dlenS, p_dreprL, p_dreprT, p_dreprS, p_dreprN, p_dreprB, p_dreprO, p_dboolN, p_dboolB, p_dboolL, p_strI, p_strS, oto_some, slTo_v, tst_bl, asInt_int, asBl_bl, asLst_l, asRef_r, asL_l, asStr_s, asExn_e, List.set_cons_zero, List.set_cons_succ, List.getElem?_cons_zero, List.getElem?_cons_succ, List.length_cons, List.length_nil, List.nil_append, List.cons_append, List.append_nil, g2, List.getElem?_set_self, List.length_set, List.set_set, p_dzip, p_putA, asIns_i, tn_non, tn_bl, tn_int, tn_str, tn_tup, tn_lst, tn_dK, tn_ins, asTn_ty, asTn_glo, tru_bl, tru_non, tru_int, tru_lst, tru_tup, truP_bl, truP_non, truP_int, truP_lst, truP_tup, isNon_non, isNon_int, isNon_tup, isNon_lst, isNon_str, isNon_ins, seqD_tup, seqD_lst, insOf_ins, atI_0, atI_1, atI_2, atI_3, atI_4, ixN_0, ixN_1, ixN_2, ixN_3, ixN_4]
  cases e : t y x with
  | none =>
    try simp only [w_var, w_int, w_bl, w_non, w_str, w_gl, w_ty, w_bin, w_un, w_cmp, w_chain, w_and, w_or, w_not, w_ife, ev_nil, ev_cons, w_tup, w_lst, w_lstM, w_ix, part_nop, w_sl, w_bi, w_call, w_callS, w_meth, w_op, w_attr, w_app, w_idx, w_dzip, w_lc, w_lcM, w_tru, w_nott, w_andt, w_ort, i_itv, i_rng1, i_rng2, i_enm, b_nil, b_cons, s_exp, s_doc, s_pass, s_brk, s_cont, s_never, s_set, s_asg, g_var, g_sub, g_tup, gs_nil, gs_cons, s_par, s_ret, s_retF, s_retN, s_ite, s_for, for_nil, s_attr, w_prp, w_dun, w_fmt, w_fst, js_nil, js_cons, w_xisi, s_raise0, s_par3, p_add, p_addS, p_addT, p_addL, p_addB, p_sub, p_mul, p_mulL, p_fdiv, p_mod, p_pow, p_neg, p_eqI, p_neI, p_eqS, p_neS, p_eqB, p_lt, p_le, p_gt, p_ge, p_isN, p_isNN, p_isB, p_isNB, p_inT, p_ninT, p_ninK, p_ixL, p_ixT, p_ixK, p_ixG, p_ixR, p_put, p_slL, p_slT, p_lenL, p_lenT, p_lenS, p_intI, p_abs, p_max, p_min, p_divmod, p_tupT, p_tupL, p_tupR, p_all, p_any, p_repr, p_isi, p_app, p_idx, p_itL, p_itT, p_rng1, p_rng2, p_enmT, p_enmL, p_fmtS, p_fmtI, p_dlenI, p_dreprI, p_dboolI, p_dlenL, p_dlenT, p_dlenS, p_dreprL, p_dreprT, p_dreprS, p_dreprN, p_dreprB, p_dreprO, p_dboolN, p_dboolB, p_dboolL, p_strI, p_strS, oto_some, slTo_v, tst_bl, asInt_int, asBl_bl, asLst_l, asRef_r, asL_l, asStr_s, asExn_e, List.set_cons_zero, List.set_cons_succ, List.getElem?_cons_zero, List.getElem?_cons_succ, List.length_cons, List.length_nil, List.nil_append, List.cons_append, List.append_nil, en, List.getElem?_set_self, List.length_set, List.set_set, p_dzip, p_putA, asIns_i, tn_non, tn_bl, tn_int, tn_str, tn_tup, tn_lst, tn_dK, tn_ins, asTn_ty, asTn_glo, tru_bl, tru_non, tru_int, tru_lst, tru_tup, truP_bl, truP_non, truP_int, truP_lst, truP_tup, isNon_non, isNon_int, isNon_tup, isNon_lst, isNon_str, isNon_ins, seqD_tup, seqD_lst, insOf_ins, atI_0, atI_1, atI_2, atI_3, atI_4, ixN_0, ixN_1, ixN_2, ixN_3, ixN_4]
    exact ⟨fun z => by (cases z), fun _ => ⟨fun z => by (cases z), fun _ => go (fun v q => by rw [e] at q; cases q)⟩⟩
  | some v =>
    try simp only [w_var, w_int, w_bl, w_non, w_str, w_gl, w_ty, w_bin, w_un, w_cmp, w_chain, w_and, w_or, w_not, w_ife, ev_nil, ev_cons, w_tup, w_lst, w_lstM, w_ix, part_nop, w_sl, w_bi, w_call, w_callS, w_meth, w_op, w_attr, w_app, w_idx, w_dzip, w_lc, w_lcM, w_tru, w_nott, w_andt, w_ort, i_itv, i_rng1, i_rng2, i_enm, b_nil, b_cons, s_exp, s_doc, s_pass, s_brk, s_cont, s_never, s_set, s_asg, g_var, g_sub, g_tup, gs_nil, gs_cons, s_par, s_ret, s_retF, s_retN, s_ite, s_for, for_nil, s_attr, w_prp, w_dun, w_fmt, w_fst, js_nil, js_cons, w_xisi, s_raise0, s_par3, p_add, p_addS, p_addT, p_addL, p_addB, p_sub, p_mul, p_mulL, p_fdiv, p_mod, p_pow, p_neg, p_eqI, p_neI, p_eqS, p_neS, p_eqB, p_lt, p_le, p_gt, p_ge, p_isN, p_isNN, p_isB, p_isNB, p_inT, p_ninT, p_ninK, p_ixL, p_ixT, p_ixK, p_ixG, p_ixR, p_put, p_slL, p_slT, p_lenL, p_lenT, p_lenS, p_intI, p_abs, p_max, p_min, p_divmod, p_tupT, p_tupL, p_tupR, p_all, p_any, p_repr, p_isi, p_app, p_idx, p_itL, p_itT, p_rng1, p_rng2, p_enmT, p_enmL, p_fmtS, p_fmtI, p_dlenI, p_dreprI, p_dboolI, p_dlenL, p_dlenT, p_dlenS, p_dreprL, p_dreprT, p_dreprS, p_dreprN, p_dreprB, p_dreprO, p_dboolN, p_dboolB, p_dboolL, p_strI, p_strS, oto_some, slTo_v, tst_bl, asInt_int, asBl_bl, asLst_l, asRef_r, asL_l, asStr_s, asExn_e, List.set_cons_zero, List.set_cons_succ, List.getElem?_cons_zero, List.getElem?_cons_succ, List.length_cons, List.length_nil, List.nil_append, List.cons_append, List.append_nil, es, List.getElem?_set_self, List.length_set, List.set_set, p_dzip, p_putA, asIns_i, tn_non, tn_bl, tn_int, tn_str, tn_tup, tn_lst, tn_dK, tn_ins, asTn_ty, asTn_glo, tru_bl, tru_non, tru_int, tru_lst, tru_tup, truP_bl, truP_non, truP_int, truP_lst, truP_tup, isNon_non, isNon_int, isNon_tup, isNon_lst, isNon_str, isNon_ins, seqD_tup, seqD_lst, insOf_ins, atI_0, atI_1, atI_2, atI_3, atI_4, ixN_0, ixN_1, ixN_2, ixN_3, ixN_4]
    refine ⟨fun _ => ⟨fun q => ⟨?_, .refl _⟩, fun q => go (fun w q2 => by rw [e] at q2; cases q2; exact of_decide_eq_false q)⟩, fun z => by (cases z)⟩
    unfold SP.step
    rw [e]
    dsimp only
    rw [if_pos (of_decide_eq_true q)]
    rfl
end
end K22

namespace K22
open PySem PySem.Spec PyProof.Rows L2 DV
section
variable {k : Nat} {st : Store} {Q : DV.D → Store → Prop} {a b c d : DV.D}
def num (f : Fc) : DV.D := .tup [.int f.1, .int f.2.1, .int f.2.2]
abbrev steps := SP.steps
theorem wfacts {o : Option SP.Tab} {fs : List Fc} (hf : ∀ f ∈ fs, Fok 5 f) : (S (k + 3) 7 [] [stepD o, .lst (fs.map num)] st).to fun d st' => d = stepD (steps o fs) ∧ FrA st st' := by
  rw [e7]
  unfold is7
  try simp only [w_var, w_int, w_bl, w_non, w_str, w_gl, w_ty, w_bin, w_un, w_cmp, w_chain, w_and, w_or, w_not, w_ife, ev_nil, ev_cons, w_tup, w_lst, w_lstM, w_ix, part_nop, w_sl, w_bi, w_call, w_callS, w_meth, w_op, w_attr, w_app, w_idx, w_dzip, w_lc, w_lcM, w_tru, w_nott, w_andt, w_ort, i_itv, i_rng1, i_rng2, i_enm, b_nil, b_cons, s_exp, s_doc, s_pass, s_brk, s_cont, s_never, s_set, s_asg, g_var, g_sub, g_tup, gs_nil, gs_cons, s_par, s_ret, s_retF, s_retN, s_ite, s_for, for_nil, s_attr, w_prp, w_dun, w_fmt, w_fst, js_nil, js_cons, w_xisi, s_raise0, s_par3, p_add, p_addS, p_addT, p_addL, p_addB, p_sub, p_mul, p_mulL, p_fdiv, p_mod, p_pow, p_neg, p_eqI, p_neI, p_eqS, p_neS, p_eqB, p_lt, p_le, p_gt, p_ge, p_isN, p_isNN, p_isB, p_isNB, p_inT, p_ninT, p_ninK, p_ixL, p_ixT, p_ixK, p_ixG, p_ixR, p_put, p_slL, p_slT, p_lenL, p_lenT, p_lenS, p_intI, p_abs, p_max, p_min, p_divmod, p_tupT, p_tupL, p_tupR, p_all, p_any, p_repr, p_isi, p_app, p_idx, p_itL, p_itT, p_rng1, p_rng2, p_enmT, p_enmL, p_fmtS, p_fmtI, p_dlenI, p_dreprI, p_dboolI, p_dlenL, p_dlenT, p_dlenS, p_dreprL, p_dreprT, p_dreprS, p_dreprN, p_dreprB, p_dreprO, p_dboolN, p_dboolB, p_dboolL, p_strI, p_strS, oto_some, slTo_v, tst_bl, asInt_int, asBl_bl, asLst_l, asRef_r, asL_l, asStr_s, asExn_e, List.set_cons_zero, List.set_cons_succ, List.getElem?_cons_zero, List.getElem?_cons_succ, List.length_cons, List.length_nil, List.nil_append, List.cons_append, List.append_nil, List.getElem?_set_self, List.length_set, List.set_set, p_dzip, p_putA, asIns_i, tn_non, tn_bl, tn_int, tn_str, tn_tup, tn_lst, tn_dK, tn_ins, asTn_ty, asTn_glo, tru_bl, tru_non, tru_int, tru_lst, tru_tup, truP_bl, truP_non, truP_int, truP_lst, truP_tup, isNon_non, isNon_int, isNon_tup, isNon_lst, isNon_str, isNon_ins, seqD_tup, seqD_lst, insOf_ins, atI_0, atI_1, atI_2, atI_3, atI_4, ixN_0, ixN_1, ixN_2, ixN_3, ixN_4]
  refine for_inv (fun ds ρ st' => ∃ (p : Option SP.Tab) (v : DV.D) (gs : List Fc) (x y z : Sl), ρ = [.v (stepD p), .v v, x, y, z] ∧ ds = gs.map num ∧ (∀ f ∈ gs, Fok 5 f) ∧ steps p gs = steps o fs ∧ FrA st st') ?_ ?_ _ _ _ ⟨o, _, fs, _, _, _, rfl, rfl, hf, rfl, .refl _⟩
  · rintro d ds ρ st' ⟨p, v, gs, x, y, z, rfl, e, hf, es, fr⟩
    cases gs with
    | nil => cases e
    | cons f gs =>
      simp only [List.map_cons, List.cons.injEq] at e
      obtain ⟨rfl, rfl⟩ := e
      obtain ⟨i, j, b⟩ := f
      obtain ⟨h1, h2, h3⟩ := hf _ (List.mem_cons_self ..)
      have hf' : ∀ f ∈ gs, Fok 5 f := fun g hg => hf g (List.mem_cons_of_mem _ hg)
      unfold num
      cases p with
      | none =>
        rw [show stepD none = DV.D.non from rfl]
        try simp only [w_var, w_int, w_bl, w_non, w_str, w_gl, w_ty, w_bin, w_un, w_cmp, w_chain, w_and, w_or, w_not, w_ife, ev_nil, ev_cons, w_tup, w_lst, w_lstM, w_ix, part_nop, w_sl, w_bi, w_call, w_callS, w_meth, w_op, w_attr, w_app, w_idx, w_dzip, w_lc, w_lcM, w_tru, w_nott, w_andt, w_ort, i_itv, i_rng1, i_rng2, i_enm, b_nil, b_cons, s_exp, s_doc, s_pass, s_brk, s_cont, s_never, s_set, s_asg, g_var, g_sub, g_tup, gs_nil, gs_cons, s_par, s_ret, s_retF, s_retN, s_ite, s_for, for_nil, s_attr, w_prp, w_dun, w_fmt, w_fst, js_nil, js_cons, w_xisi, s_raise0, s_par3, p_add, p_addS, p_addT, p_addL, p_addB, p_sub, p_mul, p_mulL, p_fdiv, p_mod, p_pow, p_neg, p_eqI, p_neI, p_eqS, p_neS, p_eqB, p_lt, p_le, p_gt, p_ge, p_isN, p_isNN, p_isB, p_isNB, p_inT, p_ninT, p_ninK, p_ixL, p_ixT, p_ixK, p_ixG, p_ixR, p_put, p_slL, p_slT, p_lenL, p_lenT, p_lenS, p_intI, p_abs, p_max, p_min, p_divmod, p_tupT, p_tupL, p_tupR, p_all, p_any, p_repr, p_isi, p_app, p_idx, p_itL, p_itT, p_rng1, p_rng2, p_enmT, p_enmL, p_fmtS, p_fmtI, p_dlenI, p_dreprI, p_dboolI, p_dlenL, p_dlenT, p_dlenS, p_dreprL, p_dreprT, p_dreprS, p_dreprN, p_dreprB, p_dreprO, p_dboolN, p_dboolB, p_dboolL, p_strI, p_strS, oto_some, slTo_v, tst_bl, asInt_int, asBl_bl, asLst_l, asRef_r, asL_l, asStr_s, asExn_e, List.set_cons_zero, List.set_cons_succ, List.getElem?_cons_zero, List.getElem?_cons_succ, List.length_cons, List.length_nil, List.nil_append, List.cons_append, List.append_nil, List.getElem?_set_self, List.length_set, List.set_set, p_dzip, p_putA, asIns_i, tn_non, tn_bl, tn_int, tn_str, tn_tup, tn_lst, tn_dK, tn_ins, asTn_ty, asTn_glo, tru_bl, tru_non, tru_int, tru_lst, tru_tup, truP_bl, truP_non, truP_int, truP_lst, truP_tup, isNon_non, isNon_int, isNon_tup, isNon_lst, isNon_str, isNon_ins, seqD_tup, seqD_lst, insOf_ins, atI_0, atI_1, atI_2, atI_3, atI_4, ixN_0, ixN_1, ixN_2, ixN_3, ixN_4]
        exact ⟨True.intro, fun z => by (cases z), fun _ => ⟨none, _, gs, _, _, _, rfl, rfl, hf', es, fr⟩⟩
      | some t =>
        rw [show stepD (some t) = DV.D.tup ((List.range 5).map (rowD t)) from rfl]
        try simp only [w_var, w_int, w_bl, w_non, w_str, w_gl, w_ty, w_bin, w_un, w_cmp, w_chain, w_and, w_or, w_not, w_ife, ev_nil, ev_cons, w_tup, w_lst, w_lstM, w_ix, part_nop, w_sl, w_bi, w_call, w_callS, w_meth, w_op, w_attr, w_app, w_idx, w_dzip, w_lc, w_lcM, w_tru, w_nott, w_andt, w_ort, i_itv, i_rng1, i_rng2, i_enm, b_nil, b_cons, s_exp, s_doc, s_pass, s_brk, s_cont, s_never, s_set, s_asg, g_var, g_sub, g_tup, gs_nil, gs_cons, s_par, s_ret, s_retF, s_retN, s_ite, s_for, for_nil, s_attr, w_prp, w_dun, w_fmt, w_fst, js_nil, js_cons, w_xisi, s_raise0, s_par3, p_add, p_addS, p_addT, p_addL, p_addB, p_sub, p_mul, p_mulL, p_fdiv, p_mod, p_pow, p_neg, p_eqI, p_neI, p_eqS, p_neS, p_eqB, p_lt, p_le, p_gt, p_ge, p_isN, p_isNN, p_isB, p_isNB, p_inT, p_ninT, p_ninK, p_ixL, p_ixT, p_ixK, p_ixG, p_ixR, p_put, p_slL, p_slT, p_lenL, p_lenT, p_lenS, p_intI, p_abs, p_max, p_min, p_divmod, p_tupT, p_tupL, p_tupR, p_all, p_any, p_repr, p_isi, p_app, p_idx, p_itL, p_itT, p_rng1, p_rng2, p_enmT, p_enmL, p_fmtS, p_fmtI, p_dlenI, p_dreprI, p_dboolI, p_dlenL, p_dlenT, p_dlenS, p_dreprL, p_dreprT, p_dreprS, p_dreprN, p_dreprB, p_dreprO, p_dboolN, p_dboolB, p_dboolL, p_strI, p_strS, oto_some, slTo_v, tst_bl, asInt_int, asBl_bl, asLst_l, asRef_r, asL_l, asStr_s, asExn_e, List.set_cons_zero, List.set_cons_succ, List.getElem?_cons_zero, List.getElem?_cons_succ, List.length_cons, List.length_nil, List.nil_append, List.cons_append, List.append_nil, List.getElem?_set_self, List.length_set, List.set_set, p_dzip, p_putA, asIns_i, tn_non, tn_bl, tn_int, tn_str, tn_tup, tn_lst, tn_dK, tn_ins, asTn_ty, asTn_glo, tru_bl, tru_non, tru_int, tru_lst, tru_tup, truP_bl, truP_non, truP_int, truP_lst, truP_tup, isNon_non, isNon_int, isNon_tup, isNon_lst, isNon_str, isNon_ins, seqD_tup, seqD_lst, insOf_ins, atI_0, atI_1, atI_2, atI_3, atI_4, ixN_0, ixN_1, ixN_2, ixN_3, ixN_4]
        refine ⟨True.intro, fun _ => ⟨True.intro, R.to_mono (wfact (t := t) h1 h2) ?_⟩, fun z => by (cases z)⟩
        rintro d st2 ⟨rfl, f2⟩
        exact ⟨_, _, gs, _, _, _, rfl, rfl, hf', es, fr.trans f2⟩
  · rintro ρ st' ⟨p, v, gs, x, y, z, rfl, e, hf, es, fr⟩
    cases gs with
    | nil =>
      try simp only [w_var, w_int, w_bl, w_non, w_str, w_gl, w_ty, w_bin, w_un, w_cmp, w_chain, w_and, w_or, w_not, w_ife, ev_nil, ev_cons, w_tup, w_lst, w_lstM, w_ix, part_nop, w_sl, w_bi, w_call, w_callS, w_meth, w_op, w_attr, w_app, w_idx, w_dzip, w_lc, w_lcM, w_tru, w_nott, w_andt, w_ort, i_itv, i_rng1, i_rng2, i_enm, b_nil, b_cons, s_exp, s_doc, s_pass, s_brk, s_cont, s_never, s_set, s_asg, g_var, g_sub, g_tup, gs_nil, gs_cons, s_par, s_ret, s_retF, s_retN, s_ite, s_for, for_nil, s_attr, w_prp, w_dun, w_fmt, w_fst, js_nil, js_cons, w_xisi, s_raise0, s_par3, p_add, p_addS, p_addT, p_addL, p_addB, p_sub, p_mul, p_mulL, p_fdiv, p_mod, p_pow, p_neg, p_eqI, p_neI, p_eqS, p_neS, p_eqB, p_lt, p_le, p_gt, p_ge, p_isN, p_isNN, p_isB, p_isNB, p_inT, p_ninT, p_ninK, p_ixL, p_ixT, p_ixK, p_ixG, p_ixR, p_put, p_slL, p_slT, p_lenL, p_lenT, p_lenS, p_intI, p_abs, p_max, p_min, p_divmod, p_tupT, p_tupL, p_tupR, p_all, p_any, p_repr, p_isi, p_app, p_idx, p_itL, p_itT, p_rng1, p_rng2, p_enmT, p_enmL, p_fmtS, p_fmtI, p_dlenI, p_dreprI, p_dboolI, p_dlenL, p_dlenT, p_dlenS, p_dreprL, p_dreprT, p_dreprS, p_dreprN, p_dreprB, p_dreprO, p_dboolN, p_dboolB, p_dboolL, p_strI, p_strS, oto_some, slTo_v, tst_bl, asInt_int, asBl_bl, asLst_l, asRef_r, asL_l, asStr_s, asExn_e, List.set_cons_zero, List.set_cons_succ, List.getElem?_cons_zero, List.getElem?_cons_succ, List.length_cons, List.length_nil, List.nil_append, List.cons_append, List.append_nil, List.getElem?_set_self, List.length_set, List.set_set, p_dzip, p_putA, asIns_i, tn_non, tn_bl, tn_int, tn_str, tn_tup, tn_lst, tn_dK, tn_ins, asTn_ty, asTn_glo, tru_bl, tru_non, tru_int, tru_lst, tru_tup, truP_bl, truP_non, truP_int, truP_lst, truP_tup, isNon_non, isNon_int, isNon_tup, isNon_lst, isNon_str, isNon_ins, seqD_tup, seqD_lst, insOf_ins, atI_0, atI_1, atI_2, atI_3, atI_4, ixN_0, ixN_1, ixN_2, ixN_3, ixN_4]
      exact ⟨by rw [← es]; rfl, fr⟩
    | cons g gs => cases e
theorem e3 : (S (k + 1) 3 [] [a] st).to Q = (denB lw.tb (S k) is3 [.v a, .un, .un] st).to (endPo Q) := enter (d := d3) (xs := [a]) rfl rfl
theorem free5 : (S (k + 1) 3 [] [.int 5] st).to fun d st' => d = tabD SP.free ∧ st' = st := by
  rw [e3]
  unfold is3
  try simp only [w_var, w_int, w_bl, w_non, w_str, w_gl, w_ty, w_bin, w_un, w_cmp, w_chain, w_and, w_or, w_not, w_ife, ev_nil, ev_cons, w_tup, w_lst, w_lstM, w_ix, part_nop, w_sl, w_bi, w_call, w_callS, w_meth, w_op, w_attr, w_app, w_idx, w_dzip, w_lc, w_lcM, w_tru, w_nott, w_andt, w_ort, i_itv, i_rng1, i_rng2, i_enm, b_nil, b_cons, s_exp, s_doc, s_pass, s_brk, s_cont, s_never, s_set, s_asg, g_var, g_sub, g_tup, gs_nil, gs_cons, s_par, s_ret, s_retF, s_retN, s_ite, s_for, for_nil, s_attr, w_prp, w_dun, w_fmt, w_fst, js_nil, js_cons, w_xisi, s_raise0, s_par3, p_add, p_addS, p_addT, p_addL, p_addB, p_sub, p_mul, p_mulL, p_fdiv, p_mod, p_pow, p_neg, p_eqI, p_neI, p_eqS, p_neS, p_eqB, p_lt, p_le, p_gt, p_ge, p_isN, p_isNN, p_isB, p_isNB, p_inT, p_ninT, p_ninK, p_ixL, p_ixT, p_ixK, p_ixG, p_ixR, p_put, p_slL, p_slT, p_lenL, p_lenT, p_lenS, p_intI, p_abs, p_max, p_min, p_divmod, p_tupT, p_tupL, p_tupR, p_all, p_any, p_repr, p_isi, p_app, p_idx, p_itL, p_itT, p_rng1, p_rng2, p_enmT, p_enmL, p_fmtS, p_fmtI, p_dlenI, p_dreprI, p_dboolI, p_dlenL, p_dlenT, p_dlenS, p_dreprL, p_dreprT, p_dreprS, p_dreprN, p_dreprB, p_dreprO, p_dboolN, p_dboolB, p_dboolL, p_strI, p_strS, oto_some, slTo_v, tst_bl, asInt_int, asBl_bl, asLst_l, asRef_r, asL_l, asStr_s, asExn_e, List.set_cons_zero, List.set_cons_succ, List.getElem?_cons_zero, List.getElem?_cons_succ, List.length_cons, List.length_nil, List.nil_append, List.cons_append, List.append_nil, List.getElem?_set_self, List.length_set, List.set_set, p_dzip, p_putA, asIns_i, tn_non, tn_bl, tn_int, tn_str, tn_tup, tn_lst, tn_dK, tn_ins, asTn_ty, asTn_glo, tru_bl, tru_non, tru_int, tru_lst, tru_tup, truP_bl, truP_non, truP_int, truP_lst, truP_tup, isNon_non, isNon_int, isNon_tup, isNon_lst, isNon_str, isNon_ins, seqD_tup, seqD_lst, insOf_ins, atI_0, atI_1, atI_2, atI_3, atI_4, ixN_0, ixN_1, ixN_2, ixN_3, ixN_4]
  refine ⟨by decide, ?_⟩
  refine lc_map (f := fun i : Nat => DV.D.int i) (g := rowD SP.free) (List.range 5) 0 ?_ (by decide) [] rfl ?_
  · intro i hi
    try simp only [w_var, w_int, w_bl, w_non, w_str, w_gl, w_ty, w_bin, w_un, w_cmp, w_chain, w_and, w_or, w_not, w_ife, ev_nil, ev_cons, w_tup, w_lst, w_lstM, w_ix, part_nop, w_sl, w_bi, w_call, w_callS, w_meth, w_op, w_attr, w_app, w_idx, w_dzip, w_lc, w_lcM, w_tru, w_nott, w_andt, w_ort, i_itv, i_rng1, i_rng2, i_enm, b_nil, b_cons, s_exp, s_doc, s_pass, s_brk, s_cont, s_never, s_set, s_asg, g_var, g_sub, g_tup, gs_nil, gs_cons, s_par, s_ret, s_retF, s_retN, s_ite, s_for, for_nil, s_attr, w_prp, w_dun, w_fmt, w_fst, js_nil, js_cons, w_xisi, s_raise0, s_par3, p_add, p_addS, p_addT, p_addL, p_addB, p_sub, p_mul, p_mulL, p_fdiv, p_mod, p_pow, p_neg, p_eqI, p_neI, p_eqS, p_neS, p_eqB, p_lt, p_le, p_gt, p_ge, p_isN, p_isNN, p_isB, p_isNB, p_inT, p_ninT, p_ninK, p_ixL, p_ixT, p_ixK, p_ixG, p_ixR, p_put, p_slL, p_slT, p_lenL, p_lenT, p_lenS, p_intI, p_abs, p_max, p_min, p_divmod, p_tupT, p_tupL, p_tupR, p_all, p_any, p_repr, p_isi, p_app, p_idx, p_itL, p_itT, p_rng1, p_rng2, p_enmT, p_enmL, p_fmtS, p_fmtI, p_dlenI, p_dreprI, p_dboolI, p_dlenL, p_dlenT, p_dlenS, p_dreprL, p_dreprT, p_dreprS, p_dreprN, p_dreprB, p_dreprO, p_dboolN, p_dboolB, p_dboolL, p_strI, p_strS, oto_some, slTo_v, tst_bl, asInt_int, asBl_bl, asLst_l, asRef_r, asL_l, asStr_s, asExn_e, List.set_cons_zero, List.set_cons_succ, List.getElem?_cons_zero, List.getElem?_cons_succ, List.length_cons, List.length_nil, List.nil_append, List.cons_append, List.append_nil, Tgd.set, wipeD, List.getElem?_set_self, List.length_set, List.set_set, p_dzip, p_putA, asIns_i, tn_non, tn_bl, tn_int, tn_str, tn_tup, tn_lst, tn_dK, tn_ins, asTn_ty, asTn_glo, tru_bl, tru_non, tru_int, tru_lst, tru_tup, truP_bl, truP_non, truP_int, truP_lst, truP_tup, isNon_non, isNon_int, isNon_tup, isNon_lst, isNon_str, isNon_ins, seqD_tup, seqD_lst, insOf_ins, atI_0, atI_1, atI_2, atI_3, atI_4, ixN_0, ixN_1, ixN_2, ixN_3, ixN_4]
    refine ⟨by decide, ?_⟩
    refine lc_map (f := fun i : Nat => DV.D.int i) (g := fun j : Nat => oD (SP.free i j)) (List.range 5) 0 ?_ (by decide) [] rfl ?_
    · intro j hj
      try simp only [w_var, w_int, w_bl, w_non, w_str, w_gl, w_ty, w_bin, w_un, w_cmp, w_chain, w_and, w_or, w_not, w_ife, ev_nil, ev_cons, w_tup, w_lst, w_lstM, w_ix, part_nop, w_sl, w_bi, w_call, w_callS, w_meth, w_op, w_attr, w_app, w_idx, w_dzip, w_lc, w_lcM, w_tru, w_nott, w_andt, w_ort, i_itv, i_rng1, i_rng2, i_enm, b_nil, b_cons, s_exp, s_doc, s_pass, s_brk, s_cont, s_never, s_set, s_asg, g_var, g_sub, g_tup, gs_nil, gs_cons, s_par, s_ret, s_retF, s_retN, s_ite, s_for, for_nil, s_attr, w_prp, w_dun, w_fmt, w_fst, js_nil, js_cons, w_xisi, s_raise0, s_par3, p_add, p_addS, p_addT, p_addL, p_addB, p_sub, p_mul, p_mulL, p_fdiv, p_mod, p_pow, p_neg, p_eqI, p_neI, p_eqS, p_neS, p_eqB, p_lt, p_le, p_gt, p_ge, p_isN, p_isNN, p_isB, p_isNB, p_inT, p_ninT, p_ninK, p_ixL, p_ixT, p_ixK, p_ixG, p_ixR, p_put, p_slL, p_slT, p_lenL, p_lenT, p_lenS, p_intI, p_abs, p_max, p_min, p_divmod, p_tupT, p_tupL, p_tupR, p_all, p_any, p_repr, p_isi, p_app, p_idx, p_itL, p_itT, p_rng1, p_rng2, p_enmT, p_enmL, p_fmtS, p_fmtI, p_dlenI, p_dreprI, p_dboolI, p_dlenL, p_dlenT, p_dlenS, p_dreprL, p_dreprT, p_dreprS, p_dreprN, p_dreprB, p_dreprO, p_dboolN, p_dboolB, p_dboolL, p_strI, p_strS, oto_some, slTo_v, tst_bl, asInt_int, asBl_bl, asLst_l, asRef_r, asL_l, asStr_s, asExn_e, List.set_cons_zero, List.set_cons_succ, List.getElem?_cons_zero, List.getElem?_cons_succ, List.length_cons, List.length_nil, List.nil_append, List.cons_append, List.append_nil, Tgd.set, wipeD, List.getElem?_set_self, List.length_set, List.set_set, p_dzip, p_putA, asIns_i, tn_non, tn_bl, tn_int, tn_str, tn_tup, tn_lst, tn_dK, tn_ins, asTn_ty, asTn_glo, tru_bl, tru_non, tru_int, tru_lst, tru_tup, truP_bl, truP_non, truP_int, truP_lst, truP_tup, isNon_non, isNon_int, isNon_tup, isNon_lst, isNon_str, isNon_ins, seqD_tup, seqD_lst, insOf_ins, atI_0, atI_1, atI_2, atI_3, atI_4, ixN_0, ixN_1, ixN_2, ixN_3, ixN_4]
      refine ⟨fun z => ?_, fun z => ?_⟩
      · have z := of_decide_eq_true z
        refine ⟨?_, True.intro⟩
        unfold SP.free
        rw [if_pos (by omega)]
        rfl
      · have z := of_decide_eq_false z
        refine ⟨?_, True.intro⟩
        unfold SP.free
        rw [if_neg (by omega)]
        rfl
    · try simp only [w_var, w_int, w_bl, w_non, w_str, w_gl, w_ty, w_bin, w_un, w_cmp, w_chain, w_and, w_or, w_not, w_ife, ev_nil, ev_cons, w_tup, w_lst, w_lstM, w_ix, part_nop, w_sl, w_bi, w_call, w_callS, w_meth, w_op, w_attr, w_app, w_idx, w_dzip, w_lc, w_lcM, w_tru, w_nott, w_andt, w_ort, i_itv, i_rng1, i_rng2, i_enm, b_nil, b_cons, s_exp, s_doc, s_pass, s_brk, s_cont, s_never, s_set, s_asg, g_var, g_sub, g_tup, gs_nil, gs_cons, s_par, s_ret, s_retF, s_retN, s_ite, s_for, for_nil, s_attr, w_prp, w_dun, w_fmt, w_fst, js_nil, js_cons, w_xisi, s_raise0, s_par3, p_add, p_addS, p_addT, p_addL, p_addB, p_sub, p_mul, p_mulL, p_fdiv, p_mod, p_pow, p_neg, p_eqI, p_neI, p_eqS, p_neS, p_eqB, p_lt, p_le, p_gt, p_ge, p_isN, p_isNN, p_isB, p_isNB, p_inT, p_ninT, p_ninK, p_ixL, p_ixT, p_ixK, p_ixG, p_ixR, p_put, p_slL, p_slT, p_lenL, p_lenT, p_lenS, p_intI, p_abs, p_max, p_min, p_divmod, p_tupT, p_tupL, p_tupR, p_all, p_any, p_repr, p_isi, p_app, p_idx, p_itL, p_itT, p_rng1, p_rng2, p_enmT, p_enmL, p_fmtS, p_fmtI, p_dlenI, p_dreprI, p_dboolI, p_dlenL, p_dlenT, p_dlenS, p_dreprL, p_dreprT, p_dreprS, p_dreprN, p_dreprB, p_dreprO, p_dboolN, p_dboolB, p_dboolL, p_strI, p_strS, oto_some, slTo_v, tst_bl, asInt_int, asBl_bl, asLst_l, asRef_r, asL_l, asStr_s, asExn_e, List.set_cons_zero, List.set_cons_succ, List.getElem?_cons_zero, List.getElem?_cons_succ, List.length_cons, List.length_nil, List.nil_append, List.cons_append, List.append_nil, List.getElem?_set_self, List.length_set, List.set_set, p_dzip, p_putA, asIns_i, tn_non, tn_bl, tn_int, tn_str, tn_tup, tn_lst, tn_dK, tn_ins, asTn_ty, asTn_glo, tru_bl, tru_non, tru_int, tru_lst, tru_tup, truP_bl, truP_non, truP_int, truP_lst, truP_tup, isNon_non, isNon_int, isNon_tup, isNon_lst, isNon_str, isNon_ins, seqD_tup, seqD_lst, insOf_ins, atI_0, atI_1, atI_2, atI_3, atI_4, ixN_0, ixN_1, ixN_2, ixN_3, ixN_4]
      exact ⟨rfl, True.intro⟩
  · try simp only [w_var, w_int, w_bl, w_non, w_str, w_gl, w_ty, w_bin, w_un, w_cmp, w_chain, w_and, w_or, w_not, w_ife, ev_nil, ev_cons, w_tup, w_lst, w_lstM, w_ix, part_nop, w_sl, w_bi, w_call, w_callS, w_meth, w_op, w_attr, w_app, w_idx, w_dzip, w_lc, w_lcM, w_tru, w_nott, w_andt, w_ort, i_itv, i_rng1, i_rng2, i_enm, b_nil, b_cons, s_exp, s_doc, s_pass, s_brk, s_cont, s_never, s_set, s_asg, g_var, g_sub, g_tup, gs_nil, gs_cons, s_par, s_ret, s_retF, s_retN, s_ite, s_for, for_nil, s_attr, w_prp, w_dun, w_fmt, w_fst, js_nil, js_cons, w_xisi, s_raise0, s_par3, p_add, p_addS, p_addT, p_addL, p_addB, p_sub, p_mul, p_mulL, p_fdiv, p_mod, p_pow, p_neg, p_eqI, p_neI, p_eqS, p_neS, p_eqB, p_lt, p_le, p_gt, p_ge, p_isN, p_isNN, p_isB, p_isNB, p_inT, p_ninT, p_ninK, p_ixL, p_ixT, p_ixK, p_ixG, p_ixR, p_put, p_slL, p_slT, p_lenL, p_lenT, p_lenS, p_intI, p_abs, p_max, p_min, p_divmod, p_tupT, p_tupL, p_tupR, p_all, p_any, p_repr, p_isi, p_app, p_idx, p_itL, p_itT, p_rng1, p_rng2, p_enmT, p_enmL, p_fmtS, p_fmtI, p_dlenI, p_dreprI, p_dboolI, p_dlenL, p_dlenT, p_dlenS, p_dreprL, p_dreprT, p_dreprS, p_dreprN, p_dreprB, p_dreprO, p_dboolN, p_dboolB, p_dboolL, p_strI, p_strS, oto_some, slTo_v, tst_bl, asInt_int, asBl_bl, asLst_l, asRef_r, asL_l, asStr_s, asExn_e, List.set_cons_zero, List.set_cons_succ, List.getElem?_cons_zero, List.getElem?_cons_succ, List.length_cons, List.length_nil, List.nil_append, List.cons_append, List.append_nil, List.getElem?_set_self, List.length_set, List.set_set, p_dzip, p_putA, asIns_i, tn_non, tn_bl, tn_int, tn_str, tn_tup, tn_lst, tn_dK, tn_ins, asTn_ty, asTn_glo, tru_bl, tru_non, tru_int, tru_lst, tru_tup, truP_bl, truP_non, truP_int, truP_lst, truP_tup, isNon_non, isNon_int, isNon_tup, isNon_lst, isNon_str, isNon_ins, seqD_tup, seqD_lst, insOf_ins, atI_0, atI_1, atI_2, atI_3, atI_4, ixN_0, ixN_1, ixN_2, ixN_3, ixN_4]
    exact ⟨rfl, rfl⟩
theorem numbered {fs : List Fc} (hf : ∀ f ∈ fs, Fok 5 f) (hz : fs.length ≤ sizeLine) : (S (k + 1) 9 [] [.tup (fs.map fD)] st).to fun d st' => d = .lst (fs.map num) ∧ st' = st := by
  rw [e9]
  unfold is9
  try simp only [w_var, w_int, w_bl, w_non, w_str, w_gl, w_ty, w_bin, w_un, w_cmp, w_chain, w_and, w_or, w_not, w_ife, ev_nil, ev_cons, w_tup, w_lst, w_lstM, w_ix, part_nop, w_sl, w_bi, w_call, w_callS, w_meth, w_op, w_attr, w_app, w_idx, w_dzip, w_lc, w_lcM, w_tru, w_nott, w_andt, w_ort, i_itv, i_rng1, i_rng2, i_enm, b_nil, b_cons, s_exp, s_doc, s_pass, s_brk, s_cont, s_never, s_set, s_asg, g_var, g_sub, g_tup, gs_nil, gs_cons, s_par, s_ret, s_retF, s_retN, s_ite, s_for, for_nil, s_attr, w_prp, w_dun, w_fmt, w_fst, js_nil, js_cons, w_xisi, s_raise0, s_par3, p_add, p_addS, p_addT, p_addL, p_addB, p_sub, p_mul, p_mulL, p_fdiv, p_mod, p_pow, p_neg, p_eqI, p_neI, p_eqS, p_neS, p_eqB, p_lt, p_le, p_gt, p_ge, p_isN, p_isNN, p_isB, p_isNB, p_inT, p_ninT, p_ninK, p_ixL, p_ixT, p_ixK, p_ixG, p_ixR, p_put, p_slL, p_slT, p_lenL, p_lenT, p_lenS, p_intI, p_abs, p_max, p_min, p_divmod, p_tupT, p_tupL, p_tupR, p_all, p_any, p_repr, p_isi, p_app, p_idx, p_itL, p_itT, p_rng1, p_rng2, p_enmT, p_enmL, p_fmtS, p_fmtI, p_dlenI, p_dreprI, p_dboolI, p_dlenL, p_dlenT, p_dlenS, p_dreprL, p_dreprT, p_dreprS, p_dreprN, p_dreprB, p_dreprO, p_dboolN, p_dboolB, p_dboolL, p_strI, p_strS, oto_some, slTo_v, tst_bl, asInt_int, asBl_bl, asLst_l, asRef_r, asL_l, asStr_s, asExn_e, List.set_cons_zero, List.set_cons_succ, List.getElem?_cons_zero, List.getElem?_cons_succ, List.length_cons, List.length_nil, List.nil_append, List.cons_append, List.append_nil, List.getElem?_set_self, List.length_set, List.set_set, p_dzip, p_putA, asIns_i, tn_non, tn_bl, tn_int, tn_str, tn_tup, tn_lst, tn_dK, tn_ins, asTn_ty, asTn_glo, tru_bl, tru_non, tru_int, tru_lst, tru_tup, truP_bl, truP_non, truP_int, truP_lst, truP_tup, isNon_non, isNon_int, isNon_tup, isNon_lst, isNon_str, isNon_ins, seqD_tup, seqD_lst, insOf_ins, atI_0, atI_1, atI_2, atI_3, atI_4, ixN_0, ixN_1, ixN_2, ixN_3, ixN_4]
  refine lc_map fD num fs 0 ?_ (by simpa using hz) [] rfl ?_
  · rintro ⟨i, j, b⟩ hm
    obtain ⟨h1, h2, h3⟩ := hf _ hm
    unfold fD num
    try simp only [w_var, w_int, w_bl, w_non, w_str, w_gl, w_ty, w_bin, w_un, w_cmp, w_chain, w_and, w_or, w_not, w_ife, ev_nil, ev_cons, w_tup, w_lst, w_lstM, w_ix, part_nop, w_sl, w_bi, w_call, w_callS, w_meth, w_op, w_attr, w_app, w_idx, w_dzip, w_lc, w_lcM, w_tru, w_nott, w_andt, w_ort, i_itv, i_rng1, i_rng2, i_enm, b_nil, b_cons, s_exp, s_doc, s_pass, s_brk, s_cont, s_never, s_set, s_asg, g_var, g_sub, g_tup, gs_nil, gs_cons, s_par, s_ret, s_retF, s_retN, s_ite, s_for, for_nil, s_attr, w_prp, w_dun, w_fmt, w_fst, js_nil, js_cons, w_xisi, s_raise0, s_par3, p_add, p_addS, p_addT, p_addL, p_addB, p_sub, p_mul, p_mulL, p_fdiv, p_mod, p_pow, p_neg, p_eqI, p_neI, p_eqS, p_neS, p_eqB, p_lt, p_le, p_gt, p_ge, p_isN, p_isNN, p_isB, p_isNB, p_inT, p_ninT, p_ninK, p_ixL, p_ixT, p_ixK, p_ixG, p_ixR, p_put, p_slL, p_slT, p_lenL, p_lenT, p_lenS, p_intI, p_abs, p_max, p_min, p_divmod, p_tupT, p_tupL, p_tupR, p_all, p_any, p_repr, p_isi, p_app, p_idx, p_itL, p_itT, p_rng1, p_rng2, p_enmT, p_enmL, p_fmtS, p_fmtI, p_dlenI, p_dreprI, p_dboolI, p_dlenL, p_dlenT, p_dlenS, p_dreprL, p_dreprT, p_dreprS, p_dreprN, p_dreprB, p_dreprO, p_dboolN, p_dboolB, p_dboolL, p_strI, p_strS, oto_some, slTo_v, tst_bl, asInt_int, asBl_bl, asLst_l, asRef_r, asL_l, asStr_s, asExn_e, List.set_cons_zero, List.set_cons_succ, List.getElem?_cons_zero, List.getElem?_cons_succ, List.length_cons, List.length_nil, List.nil_append, List.cons_append, List.append_nil, Tgd.set, wipeD, setAll, if_true, gl_num, kd_num i h1, kd_num j h2, List.getElem?_set_self, List.length_set, List.set_set, p_dzip, p_putA, asIns_i, tn_non, tn_bl, tn_int, tn_str, tn_tup, tn_lst, tn_dK, tn_ins, asTn_ty, asTn_glo, tru_bl, tru_non, tru_int, tru_lst, tru_tup, truP_bl, truP_non, truP_int, truP_lst, truP_tup, isNon_non, isNon_int, isNon_tup, isNon_lst, isNon_str, isNon_ins, seqD_tup, seqD_lst, insOf_ins, atI_0, atI_1, atI_2, atI_3, atI_4, ixN_0, ixN_1, ixN_2, ixN_3, ixN_4]
    exact ⟨by decide, True.intro, True.intro⟩
  · try simp only [w_var, w_int, w_bl, w_non, w_str, w_gl, w_ty, w_bin, w_un, w_cmp, w_chain, w_and, w_or, w_not, w_ife, ev_nil, ev_cons, w_tup, w_lst, w_lstM, w_ix, part_nop, w_sl, w_bi, w_call, w_callS, w_meth, w_op, w_attr, w_app, w_idx, w_dzip, w_lc, w_lcM, w_tru, w_nott, w_andt, w_ort, i_itv, i_rng1, i_rng2, i_enm, b_nil, b_cons, s_exp, s_doc, s_pass, s_brk, s_cont, s_never, s_set, s_asg, g_var, g_sub, g_tup, gs_nil, gs_cons, s_par, s_ret, s_retF, s_retN, s_ite, s_for, for_nil, s_attr, w_prp, w_dun, w_fmt, w_fst, js_nil, js_cons, w_xisi, s_raise0, s_par3, p_add, p_addS, p_addT, p_addL, p_addB, p_sub, p_mul, p_mulL, p_fdiv, p_mod, p_pow, p_neg, p_eqI, p_neI, p_eqS, p_neS, p_eqB, p_lt, p_le, p_gt, p_ge, p_isN, p_isNN, p_isB, p_isNB, p_inT, p_ninT, p_ninK, p_ixL, p_ixT, p_ixK, p_ixG, p_ixR, p_put, p_slL, p_slT, p_lenL, p_lenT, p_lenS, p_intI, p_abs, p_max, p_min, p_divmod, p_tupT, p_tupL, p_tupR, p_all, p_any, p_repr, p_isi, p_app, p_idx, p_itL, p_itT, p_rng1, p_rng2, p_enmT, p_enmL, p_fmtS, p_fmtI, p_dlenI, p_dreprI, p_dboolI, p_dlenL, p_dlenT, p_dlenS, p_dreprL, p_dreprT, p_dreprS, p_dreprN, p_dreprB, p_dreprO, p_dboolN, p_dboolB, p_dboolL, p_strI, p_strS, oto_some, slTo_v, tst_bl, asInt_int, asBl_bl, asLst_l, asRef_r, asL_l, asStr_s, asExn_e, List.set_cons_zero, List.set_cons_succ, List.getElem?_cons_zero, List.getElem?_cons_succ, List.length_cons, List.length_nil, List.nil_append, List.cons_append, List.append_nil, List.getElem?_set_self, List.length_set, List.set_set, p_dzip, p_putA, asIns_i, tn_non, tn_bl, tn_int, tn_str, tn_tup, tn_lst, tn_dK, tn_ins, asTn_ty, asTn_glo, tru_bl, tru_non, tru_int, tru_lst, tru_tup, truP_bl, truP_non, truP_int, truP_lst, truP_tup, isNon_non, isNon_int, isNon_tup, isNon_lst, isNon_str, isNon_ins, seqD_tup, seqD_lst, insOf_ins, atI_0, atI_1, atI_2, atI_3, atI_4, ixN_0, ixN_1, ixN_2, ixN_3, ixN_4]
    exact ⟨rfl, rfl⟩
/-! ### Facts -/
def tabF (fs : List Fc) : Option SP.Tab := steps (some SP.free) fs
def insF (fs : List Fc) : DV.D := .ins "Facts" [("facts", .tup (fs.map fD)), ("table", stepD (tabF fs))]
theorem e11 {l : Nat} {ds : List DV.D} (h : ds.length ≤ sizeLine) : (S (k + 1) 11 [] (.ref l :: ds) st).to Q = (denB lw.tb (S k) is11 [.v (.ref l), .v (.tup ds), .un, .un] st).to (endPo Q) := enter (d := d11) (xs := [.ref l, .tup ds]) rfl (bind_star1 h)
theorem cls_f : lw.tb.cls.contains ("Facts" : Str) = true := by kernel_rfl
theorem put1 (t : DV.D) : putFD "facts" t [] = [(("facts" : Str), t)] := by rfl
theorem put2 (t u : DV.D) : putFD "table" u [(("facts" : Str), t)] = [(("facts" : Str), t), (("table" : Str), u)] := by rfl
theorem init {l : Nat} {fs : List Fc} (hf : ∀ f ∈ fs, Fok 5 f) (hz : fs.length ≤ sizeLine) (hl : st[l]? = some (.ins "Facts" [])) :
    (S (k + 4) 11 [] (.ref l :: fs.map fD) st).to fun d st' => d = .non ∧ st'[l]? = some (.ins "Facts" [("facts", .tup (fs.map fD)), ("table", stepD (tabF fs))]) ∧ FrS l st st' := by
  have hlt : l < st.length := (List.getElem?_eq_some_iff.mp hl).1
  rw [e11 (by rw [List.length_map]; exact hz)]
  unfold is11
  try simp only [w_var, w_int, w_bl, w_non, w_str, w_gl, w_ty, w_bin, w_un, w_cmp, w_chain, w_and, w_or, w_not, w_ife, ev_nil, ev_cons, w_tup, w_lst, w_lstM, w_ix, part_nop, w_sl, w_bi, w_call, w_callS, w_meth, w_op, w_attr, w_app, w_idx, w_dzip, w_lc, w_lcM, w_tru, w_nott, w_andt, w_ort, i_itv, i_rng1, i_rng2, i_enm, b_nil, b_cons, s_exp, s_doc, s_pass, s_brk, s_cont, s_never, s_set, s_asg, g_var, g_sub, g_tup, gs_nil, gs_cons, s_par, s_ret, s_retF, s_retN, s_ite, s_for, for_nil, s_attr, w_prp, w_dun, w_fmt, w_fst, js_nil, js_cons, w_xisi, s_raise0, s_par3, p_add, p_addS, p_addT, p_addL, p_addB, p_sub, p_mul, p_mulL, p_fdiv, p_mod, p_pow, p_neg, p_eqI, p_neI, p_eqS, p_neS, p_eqB, p_lt, p_le, p_gt, p_ge, p_isN, p_isNN, p_isB, p_isNB, p_inT, p_ninT, p_ninK, p_ixL, p_ixT, p_ixK, p_ixG, p_ixR, p_put, p_slL, p_slT, p_lenL, p_lenT, p_lenS, p_intI, p_abs, p_max, p_min, p_divmod, p_tupT, p_tupL, p_tupR, p_all, p_any, p_repr, p_isi, p_app, p_idx, p_itL, p_itT, p_rng1, p_rng2, p_enmT, p_enmL, p_fmtS, p_fmtI, p_dlenI, p_dreprI, p_dboolI, p_dlenL, p_dlenT, p_dlenS, p_dreprL, p_dreprT, p_dreprS, p_dreprN, p_dreprB, p_dreprO, p_dboolN, p_dboolB, p_dboolL, p_strI, p_strS, oto_some, slTo_v, tst_bl, asInt_int, asBl_bl, asLst_l, asRef_r, asL_l, asStr_s, asExn_e, List.set_cons_zero, List.set_cons_succ, List.getElem?_cons_zero, List.getElem?_cons_succ, List.length_cons, List.length_nil, List.nil_append, List.cons_append, List.append_nil, List.getElem?_set_self, List.length_set, List.set_set, p_dzip, p_putA, asIns_i, tn_non, tn_bl, tn_int, tn_str, tn_tup, tn_lst, tn_dK, tn_ins, asTn_ty, asTn_glo, tru_bl, tru_non, tru_int, tru_lst, tru_tup, truP_bl, truP_non, truP_int, truP_lst, truP_tup, isNon_non, isNon_int, isNon_tup, isNon_lst, isNon_str, isNon_ins, seqD_tup, seqD_lst, insOf_ins, atI_0, atI_1, atI_2, atI_3, atI_4, ixN_0, ixN_1, ixN_2, ixN_3, ixN_4]
  refine for_inv (fun ds ρ st' => (∃ (i x : Sl), ρ = [.v (.ref l), .v (.tup (fs.map fD)), i, x]) ∧ (∀ d ∈ ds, ∃ (i : Nat) (f : Fc), d = .tup [.int i, fD f] ∧ Fok 5 f) ∧ st' = st) ?_ ?_ _ _ _ ⟨⟨_, _, rfl⟩, ?_, rfl⟩
  · rintro d ds ρ st' ⟨⟨i, x, rfl⟩, a1, a2⟩
    have a2 := a2.symm
    subst a2
    obtain ⟨i, f, rfl, ok⟩ := a1 d (List.mem_cons_self ..)
    try simp only [w_var, w_int, w_bl, w_non, w_str, w_gl, w_ty, w_bin, w_un, w_cmp, w_chain, w_and, w_or, w_not, w_ife, ev_nil, ev_cons, w_tup, w_lst, w_lstM, w_ix, part_nop, w_sl, w_bi, w_call, w_callS, w_meth, w_op, w_attr, w_app, w_idx, w_dzip, w_lc, w_lcM, w_tru, w_nott, w_andt, w_ort, i_itv, i_rng1, i_rng2, i_enm, b_nil, b_cons, s_exp, s_doc, s_pass, s_brk, s_cont, s_never, s_set, s_asg, g_var, g_sub, g_tup, gs_nil, gs_cons, s_par, s_ret, s_retF, s_retN, s_ite, s_for, for_nil, s_attr, w_prp, w_dun, w_fmt, w_fst, js_nil, js_cons, w_xisi, s_raise0, s_par3, p_add, p_addS, p_addT, p_addL, p_addB, p_sub, p_mul, p_mulL, p_fdiv, p_mod, p_pow, p_neg, p_eqI, p_neI, p_eqS, p_neS, p_eqB, p_lt, p_le, p_gt, p_ge, p_isN, p_isNN, p_isB, p_isNB, p_inT, p_ninT, p_ninK, p_ixL, p_ixT, p_ixK, p_ixG, p_ixR, p_put, p_slL, p_slT, p_lenL, p_lenT, p_lenS, p_intI, p_abs, p_max, p_min, p_divmod, p_tupT, p_tupL, p_tupR, p_all, p_any, p_repr, p_isi, p_app, p_idx, p_itL, p_itT, p_rng1, p_rng2, p_enmT, p_enmL, p_fmtS, p_fmtI, p_dlenI, p_dreprI, p_dboolI, p_dlenL, p_dlenT, p_dlenS, p_dreprL, p_dreprT, p_dreprS, p_dreprN, p_dreprB, p_dreprO, p_dboolN, p_dboolB, p_dboolL, p_strI, p_strS, oto_some, slTo_v, tst_bl, asInt_int, asBl_bl, asLst_l, asRef_r, asL_l, asStr_s, asExn_e, List.set_cons_zero, List.set_cons_succ, List.getElem?_cons_zero, List.getElem?_cons_succ, List.length_cons, List.length_nil, List.nil_append, List.cons_append, List.append_nil, gl_pts, List.getElem?_set_self, List.length_set, List.set_set, p_dzip, p_putA, asIns_i, tn_non, tn_bl, tn_int, tn_str, tn_tup, tn_lst, tn_dK, tn_ins, asTn_ty, asTn_glo, tru_bl, tru_non, tru_int, tru_lst, tru_tup, truP_bl, truP_non, truP_int, truP_lst, truP_tup, isNon_non, isNon_int, isNon_tup, isNon_lst, isNon_str, isNon_ins, seqD_tup, seqD_lst, insOf_ins, atI_0, atI_1, atI_2, atI_3, atI_4, ixN_0, ixN_1, ixN_2, ixN_3, ixN_4]
    refine ⟨True.intro, ?_⟩
    rw [show ((pts.length : Nat) : Int) = 5 from rfl]
    refine ⟨True.intro, R.to_mono (isFact ok) ?_⟩
    rintro _ st1 ⟨rfl, e1⟩
    have e1 := e1.symm
    subst e1
    try simp only [w_var, w_int, w_bl, w_non, w_str, w_gl, w_ty, w_bin, w_un, w_cmp, w_chain, w_and, w_or, w_not, w_ife, ev_nil, ev_cons, w_tup, w_lst, w_lstM, w_ix, part_nop, w_sl, w_bi, w_call, w_callS, w_meth, w_op, w_attr, w_app, w_idx, w_dzip, w_lc, w_lcM, w_tru, w_nott, w_andt, w_ort, i_itv, i_rng1, i_rng2, i_enm, b_nil, b_cons, s_exp, s_doc, s_pass, s_brk, s_cont, s_never, s_set, s_asg, g_var, g_sub, g_tup, gs_nil, gs_cons, s_par, s_ret, s_retF, s_retN, s_ite, s_for, for_nil, s_attr, w_prp, w_dun, w_fmt, w_fst, js_nil, js_cons, w_xisi, s_raise0, s_par3, p_add, p_addS, p_addT, p_addL, p_addB, p_sub, p_mul, p_mulL, p_fdiv, p_mod, p_pow, p_neg, p_eqI, p_neI, p_eqS, p_neS, p_eqB, p_lt, p_le, p_gt, p_ge, p_isN, p_isNN, p_isB, p_isNB, p_inT, p_ninT, p_ninK, p_ixL, p_ixT, p_ixK, p_ixG, p_ixR, p_put, p_slL, p_slT, p_lenL, p_lenT, p_lenS, p_intI, p_abs, p_max, p_min, p_divmod, p_tupT, p_tupL, p_tupR, p_all, p_any, p_repr, p_isi, p_app, p_idx, p_itL, p_itT, p_rng1, p_rng2, p_enmT, p_enmL, p_fmtS, p_fmtI, p_dlenI, p_dreprI, p_dboolI, p_dlenL, p_dlenT, p_dlenS, p_dreprL, p_dreprT, p_dreprS, p_dreprN, p_dreprB, p_dreprO, p_dboolN, p_dboolB, p_dboolL, p_strI, p_strS, oto_some, slTo_v, tst_bl, asInt_int, asBl_bl, asLst_l, asRef_r, asL_l, asStr_s, asExn_e, List.set_cons_zero, List.set_cons_succ, List.getElem?_cons_zero, List.getElem?_cons_succ, List.length_cons, List.length_nil, List.nil_append, List.cons_append, List.append_nil, List.getElem?_set_self, List.length_set, List.set_set, p_dzip, p_putA, asIns_i, tn_non, tn_bl, tn_int, tn_str, tn_tup, tn_lst, tn_dK, tn_ins, asTn_ty, asTn_glo, tru_bl, tru_non, tru_int, tru_lst, tru_tup, truP_bl, truP_non, truP_int, truP_lst, truP_tup, isNon_non, isNon_int, isNon_tup, isNon_lst, isNon_str, isNon_ins, seqD_tup, seqD_lst, insOf_ins, atI_0, atI_1, atI_2, atI_3, atI_4, ixN_0, ixN_1, ixN_2, ixN_3, ixN_4]
    exact ⟨fun z => by (cases z), fun _ => ⟨⟨_, _, rfl⟩, fun d hd => a1 d (List.mem_cons_of_mem _ hd), True.intro⟩⟩
  · rintro ρ st' ⟨⟨i, x, rfl⟩, a1, a2⟩
    have a2 := a2.symm
    subst a2
    try simp only [w_var, w_int, w_bl, w_non, w_str, w_gl, w_ty, w_bin, w_un, w_cmp, w_chain, w_and, w_or, w_not, w_ife, ev_nil, ev_cons, w_tup, w_lst, w_lstM, w_ix, part_nop, w_sl, w_bi, w_call, w_callS, w_meth, w_op, w_attr, w_app, w_idx, w_dzip, w_lc, w_lcM, w_tru, w_nott, w_andt, w_ort, i_itv, i_rng1, i_rng2, i_enm, b_nil, b_cons, s_exp, s_doc, s_pass, s_brk, s_cont, s_never, s_set, s_asg, g_var, g_sub, g_tup, gs_nil, gs_cons, s_par, s_ret, s_retF, s_retN, s_ite, s_for, for_nil, s_attr, w_prp, w_dun, w_fmt, w_fst, js_nil, js_cons, w_xisi, s_raise0, s_par3, p_add, p_addS, p_addT, p_addL, p_addB, p_sub, p_mul, p_mulL, p_fdiv, p_mod, p_pow, p_neg, p_eqI, p_neI, p_eqS, p_neS, p_eqB, p_lt, p_le, p_gt, p_ge, p_isN, p_isNN, p_isB, p_isNB, p_inT, p_ninT, p_ninK, p_ixL, p_ixT, p_ixK, p_ixG, p_ixR, p_put, p_slL, p_slT, p_lenL, p_lenT, p_lenS, p_intI, p_abs, p_max, p_min, p_divmod, p_tupT, p_tupL, p_tupR, p_all, p_any, p_repr, p_isi, p_app, p_idx, p_itL, p_itT, p_rng1, p_rng2, p_enmT, p_enmL, p_fmtS, p_fmtI, p_dlenI, p_dreprI, p_dboolI, p_dlenL, p_dlenT, p_dlenS, p_dreprL, p_dreprT, p_dreprS, p_dreprN, p_dreprB, p_dreprO, p_dboolN, p_dboolB, p_dboolL, p_strI, p_strS, oto_some, slTo_v, tst_bl, asInt_int, asBl_bl, asLst_l, asRef_r, asL_l, asStr_s, asExn_e, List.set_cons_zero, List.set_cons_succ, List.getElem?_cons_zero, List.getElem?_cons_succ, List.length_cons, List.length_nil, List.nil_append, List.cons_append, List.append_nil, hl, cls_f, List.getElem?_set_self, List.length_set, List.set_set, p_dzip, p_putA, asIns_i, tn_non, tn_bl, tn_int, tn_str, tn_tup, tn_lst, tn_dK, tn_ins, asTn_ty, asTn_glo, tru_bl, tru_non, tru_int, tru_lst, tru_tup, truP_bl, truP_non, truP_int, truP_lst, truP_tup, isNon_non, isNon_int, isNon_tup, isNon_lst, isNon_str, isNon_ins, seqD_tup, seqD_lst, insOf_ins, atI_0, atI_1, atI_2, atI_3, atI_4, ixN_0, ixN_1, ixN_2, ixN_3, ixN_4]
    refine ⟨by decide, ?_⟩
    try simp only [w_var, w_int, w_bl, w_non, w_str, w_gl, w_ty, w_bin, w_un, w_cmp, w_chain, w_and, w_or, w_not, w_ife, ev_nil, ev_cons, w_tup, w_lst, w_lstM, w_ix, part_nop, w_sl, w_bi, w_call, w_callS, w_meth, w_op, w_attr, w_app, w_idx, w_dzip, w_lc, w_lcM, w_tru, w_nott, w_andt, w_ort, i_itv, i_rng1, i_rng2, i_enm, b_nil, b_cons, s_exp, s_doc, s_pass, s_brk, s_cont, s_never, s_set, s_asg, g_var, g_sub, g_tup, gs_nil, gs_cons, s_par, s_ret, s_retF, s_retN, s_ite, s_for, for_nil, s_attr, w_prp, w_dun, w_fmt, w_fst, js_nil, js_cons, w_xisi, s_raise0, s_par3, p_add, p_addS, p_addT, p_addL, p_addB, p_sub, p_mul, p_mulL, p_fdiv, p_mod, p_pow, p_neg, p_eqI, p_neI, p_eqS, p_neS, p_eqB, p_lt, p_le, p_gt, p_ge, p_isN, p_isNN, p_isB, p_isNB, p_inT, p_ninT, p_ninK, p_ixL, p_ixT, p_ixK, p_ixG, p_ixR, p_put, p_slL, p_slT, p_lenL, p_lenT, p_lenS, p_intI, p_abs, p_max, p_min, p_divmod, p_tupT, p_tupL, p_tupR, p_all, p_any, p_repr, p_isi, p_app, p_idx, p_itL, p_itT, p_rng1, p_rng2, p_enmT, p_enmL, p_fmtS, p_fmtI, p_dlenI, p_dreprI, p_dboolI, p_dlenL, p_dlenT, p_dlenS, p_dreprL, p_dreprT, p_dreprS, p_dreprN, p_dreprB, p_dreprO, p_dboolN, p_dboolB, p_dboolL, p_strI, p_strS, oto_some, slTo_v, tst_bl, asInt_int, asBl_bl, asLst_l, asRef_r, asL_l, asStr_s, asExn_e, List.set_cons_zero, List.set_cons_succ, List.getElem?_cons_zero, List.getElem?_cons_succ, List.length_cons, List.length_nil, List.nil_append, List.cons_append, List.append_nil, gl_pts, List.getElem?_set_self, List.length_set, List.set_set, p_dzip, p_putA, asIns_i, tn_non, tn_bl, tn_int, tn_str, tn_tup, tn_lst, tn_dK, tn_ins, asTn_ty, asTn_glo, tru_bl, tru_non, tru_int, tru_lst, tru_tup, truP_bl, truP_non, truP_int, truP_lst, truP_tup, isNon_non, isNon_int, isNon_tup, isNon_lst, isNon_str, isNon_ins, seqD_tup, seqD_lst, insOf_ins, atI_0, atI_1, atI_2, atI_3, atI_4, ixN_0, ixN_1, ixN_2, ixN_3, ixN_4]
    rw [show ((pts.length : Nat) : Int) = 5 from rfl]
    refine ⟨True.intro, R.to_mono free5 ?_⟩
    rintro _ st1 ⟨rfl, e1⟩
    have e1 := e1.symm
    subst e1
    try simp only [w_var, w_int, w_bl, w_non, w_str, w_gl, w_ty, w_bin, w_un, w_cmp, w_chain, w_and, w_or, w_not, w_ife, ev_nil, ev_cons, w_tup, w_lst, w_lstM, w_ix, part_nop, w_sl, w_bi, w_call, w_callS, w_meth, w_op, w_attr, w_app, w_idx, w_dzip, w_lc, w_lcM, w_tru, w_nott, w_andt, w_ort, i_itv, i_rng1, i_rng2, i_enm, b_nil, b_cons, s_exp, s_doc, s_pass, s_brk, s_cont, s_never, s_set, s_asg, g_var, g_sub, g_tup, gs_nil, gs_cons, s_par, s_ret, s_retF, s_retN, s_ite, s_for, for_nil, s_attr, w_prp, w_dun, w_fmt, w_fst, js_nil, js_cons, w_xisi, s_raise0, s_par3, p_add, p_addS, p_addT, p_addL, p_addB, p_sub, p_mul, p_mulL, p_fdiv, p_mod, p_pow, p_neg, p_eqI, p_neI, p_eqS, p_neS, p_eqB, p_lt, p_le, p_gt, p_ge, p_isN, p_isNN, p_isB, p_isNB, p_inT, p_ninT, p_ninK, p_ixL, p_ixT, p_ixK, p_ixG, p_ixR, p_put, p_slL, p_slT, p_lenL, p_lenT, p_lenS, p_intI, p_abs, p_max, p_min, p_divmod, p_tupT, p_tupL, p_tupR, p_all, p_any, p_repr, p_isi, p_app, p_idx, p_itL, p_itT, p_rng1, p_rng2, p_enmT, p_enmL, p_fmtS, p_fmtI, p_dlenI, p_dreprI, p_dboolI, p_dlenL, p_dlenT, p_dlenS, p_dreprL, p_dreprT, p_dreprS, p_dreprN, p_dreprB, p_dreprO, p_dboolN, p_dboolB, p_dboolL, p_strI, p_strS, oto_some, slTo_v, tst_bl, asInt_int, asBl_bl, asLst_l, asRef_r, asL_l, asStr_s, asExn_e, List.set_cons_zero, List.set_cons_succ, List.getElem?_cons_zero, List.getElem?_cons_succ, List.length_cons, List.length_nil, List.nil_append, List.cons_append, List.append_nil, List.getElem?_set_self, List.length_set, List.set_set, p_dzip, p_putA, asIns_i, tn_non, tn_bl, tn_int, tn_str, tn_tup, tn_lst, tn_dK, tn_ins, asTn_ty, asTn_glo, tru_bl, tru_non, tru_int, tru_lst, tru_tup, truP_bl, truP_non, truP_int, truP_lst, truP_tup, isNon_non, isNon_int, isNon_tup, isNon_lst, isNon_str, isNon_ins, seqD_tup, seqD_lst, insOf_ins, atI_0, atI_1, atI_2, atI_3, atI_4, ixN_0, ixN_1, ixN_2, ixN_3, ixN_4]
    refine ⟨True.intro, R.to_mono (numbered hf hz) ?_⟩
    rintro _ st1 ⟨rfl, e1⟩
    have e1 := e1.symm
    subst e1
    try simp only [w_var, w_int, w_bl, w_non, w_str, w_gl, w_ty, w_bin, w_un, w_cmp, w_chain, w_and, w_or, w_not, w_ife, ev_nil, ev_cons, w_tup, w_lst, w_lstM, w_ix, part_nop, w_sl, w_bi, w_call, w_callS, w_meth, w_op, w_attr, w_app, w_idx, w_dzip, w_lc, w_lcM, w_tru, w_nott, w_andt, w_ort, i_itv, i_rng1, i_rng2, i_enm, b_nil, b_cons, s_exp, s_doc, s_pass, s_brk, s_cont, s_never, s_set, s_asg, g_var, g_sub, g_tup, gs_nil, gs_cons, s_par, s_ret, s_retF, s_retN, s_ite, s_for, for_nil, s_attr, w_prp, w_dun, w_fmt, w_fst, js_nil, js_cons, w_xisi, s_raise0, s_par3, p_add, p_addS, p_addT, p_addL, p_addB, p_sub, p_mul, p_mulL, p_fdiv, p_mod, p_pow, p_neg, p_eqI, p_neI, p_eqS, p_neS, p_eqB, p_lt, p_le, p_gt, p_ge, p_isN, p_isNN, p_isB, p_isNB, p_inT, p_ninT, p_ninK, p_ixL, p_ixT, p_ixK, p_ixG, p_ixR, p_put, p_slL, p_slT, p_lenL, p_lenT, p_lenS, p_intI, p_abs, p_max, p_min, p_divmod, p_tupT, p_tupL, p_tupR, p_all, p_any, p_repr, p_isi, p_app, p_idx, p_itL, p_itT, p_rng1, p_rng2, p_enmT, p_enmL, p_fmtS, p_fmtI, p_dlenI, p_dreprI, p_dboolI, p_dlenL, p_dlenT, p_dlenS, p_dreprL, p_dreprT, p_dreprS, p_dreprN, p_dreprB, p_dreprO, p_dboolN, p_dboolB, p_dboolL, p_strI, p_strS, oto_some, slTo_v, tst_bl, asInt_int, asBl_bl, asLst_l, asRef_r, asL_l, asStr_s, asExn_e, List.set_cons_zero, List.set_cons_succ, List.getElem?_cons_zero, List.getElem?_cons_succ, List.length_cons, List.length_nil, List.nil_append, List.cons_append, List.append_nil, List.getElem?_set_self, List.length_set, List.set_set, p_dzip, p_putA, asIns_i, tn_non, tn_bl, tn_int, tn_str, tn_tup, tn_lst, tn_dK, tn_ins, asTn_ty, asTn_glo, tru_bl, tru_non, tru_int, tru_lst, tru_tup, truP_bl, truP_non, truP_int, truP_lst, truP_tup, isNon_non, isNon_int, isNon_tup, isNon_lst, isNon_str, isNon_ins, seqD_tup, seqD_lst, insOf_ins, atI_0, atI_1, atI_2, atI_3, atI_4, ixN_0, ixN_1, ixN_2, ixN_3, ixN_4]
    refine ⟨True.intro, R.to_mono (wfacts (o := some SP.free) hf) ?_⟩
    rintro _ st2 ⟨rfl, f2⟩
    have g2 : st2[l]? = some (.ins "Facts" (putFD "facts" (.tup (fs.map fD)) [])) := f2.get (List.getElem?_set_self hlt)
    have hlt2 : l < st2.length := (List.getElem?_eq_some_iff.mp g2).1
    rw [put1] at g2
    try simp only [w_var, w_int, w_bl, w_non, w_str, w_gl, w_ty, w_bin, w_un, w_cmp, w_chain, w_and, w_or, w_not, w_ife, ev_nil, ev_cons, w_tup, w_lst, w_lstM, w_ix, part_nop, w_sl, w_bi, w_call, w_callS, w_meth, w_op, w_attr, w_app, w_idx, w_dzip, w_lc, w_lcM, w_tru, w_nott, w_andt, w_ort, i_itv, i_rng1, i_rng2, i_enm, b_nil, b_cons, s_exp, s_doc, s_pass, s_brk, s_cont, s_never, s_set, s_asg, g_var, g_sub, g_tup, gs_nil, gs_cons, s_par, s_ret, s_retF, s_retN, s_ite, s_for, for_nil, s_attr, w_prp, w_dun, w_fmt, w_fst, js_nil, js_cons, w_xisi, s_raise0, s_par3, p_add, p_addS, p_addT, p_addL, p_addB, p_sub, p_mul, p_mulL, p_fdiv, p_mod, p_pow, p_neg, p_eqI, p_neI, p_eqS, p_neS, p_eqB, p_lt, p_le, p_gt, p_ge, p_isN, p_isNN, p_isB, p_isNB, p_inT, p_ninT, p_ninK, p_ixL, p_ixT, p_ixK, p_ixG, p_ixR, p_put, p_slL, p_slT, p_lenL, p_lenT, p_lenS, p_intI, p_abs, p_max, p_min, p_divmod, p_tupT, p_tupL, p_tupR, p_all, p_any, p_repr, p_isi, p_app, p_idx, p_itL, p_itT, p_rng1, p_rng2, p_enmT, p_enmL, p_fmtS, p_fmtI, p_dlenI, p_dreprI, p_dboolI, p_dlenL, p_dlenT, p_dlenS, p_dreprL, p_dreprT, p_dreprS, p_dreprN, p_dreprB, p_dreprO, p_dboolN, p_dboolB, p_dboolL, p_strI, p_strS, oto_some, slTo_v, tst_bl, asInt_int, asBl_bl, asLst_l, asRef_r, asL_l, asStr_s, asExn_e, List.set_cons_zero, List.set_cons_succ, List.getElem?_cons_zero, List.getElem?_cons_succ, List.length_cons, List.length_nil, List.nil_append, List.cons_append, List.append_nil, g2, cls_f, List.getElem?_set_self, List.length_set, List.set_set, p_dzip, p_putA, asIns_i, tn_non, tn_bl, tn_int, tn_str, tn_tup, tn_lst, tn_dK, tn_ins, asTn_ty, asTn_glo, tru_bl, tru_non, tru_int, tru_lst, tru_tup, truP_bl, truP_non, truP_int, truP_lst, truP_tup, isNon_non, isNon_int, isNon_tup, isNon_lst, isNon_str, isNon_ins, seqD_tup, seqD_lst, insOf_ins, atI_0, atI_1, atI_2, atI_3, atI_4, ixN_0, ixN_1, ixN_2, ixN_3, ixN_4]
    refine ⟨by rfl, rfl, ?_, FrS.set.trans (f2.s.trans FrS.set)⟩
    rw [List.getElem?_set_self hlt2, put2]
    rfl
  · intro d hd
    obtain ⟨i, x, hx, e⟩ := enum_mem hd
    obtain ⟨f, hf', e2⟩ := List.mem_map.mp hx
    exact ⟨i, f, by rw [e, ← e2], hf f hf'⟩
theorem facts {fs : List Fc} (hf : ∀ f ∈ fs, Fok 5 f) (hz : fs.length ≤ sizeLine) : (S (k + 5) 10 [] (fs.map fD) st).to fun d st' => d = insF fs ∧ FrA st st' := by
  rw [show S (k + 5) = sem lw.tb lw.dl ((k + 4) + 1) from rfl]
  show R.tx _ _ _
  rw [enter_mk (C := "Facts") (i := 11) rfl]
  refine R.to_mono (init hf hz (by rw [List.getElem?_append_right (Nat.le_refl _), Nat.sub_self]; rfl)) ?_
  rintro _ st1 ⟨rfl, ht, f⟩
  refine ⟨rfl, p_frzI ht ⟨rfl, ?_⟩⟩
  have fa : FrA st st1 := by
    refine ⟨by have := f.1; simp at this; omega, fun i hi => ?_⟩
    rw [f.2 i (by simp; omega) (by omega), List.getElem?_append_left hi]
  exact fa.set (Nat.le_refl _)
theorem e13 : (S (k + 1) 13 [] [a, b] st).to Q = (denB lw.tb (S k) is13 [.v a, .v b, .un] st).to (endPo Q) := enter (d := d13) (xs := [a, b]) rfl rfl
theorem lookF (t u : DV.D) : List.lookup ("facts" : Str) [(("facts" : Str), t), ("table", u)] = some t := by rfl
theorem both {fs gs : List Fc} (hf : ∀ f ∈ fs, Fok 5 f) (hg : ∀ f ∈ gs, Fok 5 f) (hz : fs.length + gs.length ≤ sizeLine) : (S (k + 6) 13 [] [insF fs, insF gs] st).to fun d st' => d = insF (fs ++ gs) ∧ FrA st st' := by
  rw [e13]
  unfold is13 insF
  try simp only [w_var, w_int, w_bl, w_non, w_str, w_gl, w_ty, w_bin, w_un, w_cmp, w_chain, w_and, w_or, w_not, w_ife, ev_nil, ev_cons, w_tup, w_lst, w_lstM, w_ix, part_nop, w_sl, w_bi, w_call, w_callS, w_meth, w_op, w_attr, w_app, w_idx, w_dzip, w_lc, w_lcM, w_tru, w_nott, w_andt, w_ort, i_itv, i_rng1, i_rng2, i_enm, b_nil, b_cons, s_exp, s_doc, s_pass, s_brk, s_cont, s_never, s_set, s_asg, g_var, g_sub, g_tup, gs_nil, gs_cons, s_par, s_ret, s_retF, s_retN, s_ite, s_for, for_nil, s_attr, w_prp, w_dun, w_fmt, w_fst, js_nil, js_cons, w_xisi, s_raise0, s_par3, p_add, p_addS, p_addT, p_addL, p_addB, p_sub, p_mul, p_mulL, p_fdiv, p_mod, p_pow, p_neg, p_eqI, p_neI, p_eqS, p_neS, p_eqB, p_lt, p_le, p_gt, p_ge, p_isN, p_isNN, p_isB, p_isNB, p_inT, p_ninT, p_ninK, p_ixL, p_ixT, p_ixK, p_ixG, p_ixR, p_put, p_slL, p_slT, p_lenL, p_lenT, p_lenS, p_intI, p_abs, p_max, p_min, p_divmod, p_tupT, p_tupL, p_tupR, p_all, p_any, p_repr, p_isi, p_app, p_idx, p_itL, p_itT, p_rng1, p_rng2, p_enmT, p_enmL, p_fmtS, p_fmtI, p_dlenI, p_dreprI, p_dboolI, p_dlenL, p_dlenT, p_dlenS, p_dreprL, p_dreprT, p_dreprS, p_dreprN, p_dreprB, p_dreprO, p_dboolN, p_dboolB, p_dboolL, p_strI, p_strS, oto_some, slTo_v, tst_bl, asInt_int, asBl_bl, asLst_l, asRef_r, asL_l, asStr_s, asExn_e, List.set_cons_zero, List.set_cons_succ, List.getElem?_cons_zero, List.getElem?_cons_succ, List.length_cons, List.length_nil, List.nil_append, List.cons_append, List.append_nil, cls_f, lookF, List.getElem?_set_self, List.length_set, List.set_set, p_dzip, p_putA, asIns_i, tn_non, tn_bl, tn_int, tn_str, tn_tup, tn_lst, tn_dK, tn_ins, asTn_ty, asTn_glo, tru_bl, tru_non, tru_int, tru_lst, tru_tup, truP_bl, truP_non, truP_int, truP_lst, truP_tup, isNon_non, isNon_int, isNon_tup, isNon_lst, isNon_str, isNon_ins, seqD_tup, seqD_lst, insOf_ins, atI_0, atI_1, atI_2, atI_3, atI_4, ixN_0, ixN_1, ixN_2, ixN_3, ixN_4]
  refine ⟨True.intro, True.intro, by rw [List.length_map, List.length_map]; exact hz, ?_⟩
  rw [← List.map_append]
  exact facts (fun f h => (List.mem_append.mp h).elim (hf f) (hg f)) (by rw [List.length_append]; exact hz)
theorem op_f (fs gs : List Fc) : opN ((lw.tb.ops.lookup .BitAnd).getD []) (insF fs) (insF gs) st = some 13 := by kernel_rfl
end
end K22

namespace K22
open PySem PySem.Spec PyProof.Rows L2 DV
section
variable {k : Nat} {st : Store} {Q : DV.D → Store → Prop} {a b c d : DV.D}
def nml : List DV.D := [.str "front", .str "length", .str "first", .str "second", .str "third"]
theorem e20 : (S (k + 1) 20 [] [] st).to Q = (denB lw.tb (S k) is20 [] st).to (endPo Q) := enter (d := d20) (xs := []) rfl rfl
theorem names20 : (S (k + 1) 20 [] [] st).to fun d st' => d = .lst nml ∧ st' = st := by
  rw [e20]
  unfold is20
  try simp only [w_var, w_int, w_bl, w_non, w_str, w_gl, w_ty, w_bin, w_un, w_cmp, w_chain, w_and, w_or, w_not, w_ife, ev_nil, ev_cons, w_tup, w_lst, w_lstM, w_ix, part_nop, w_sl, w_bi, w_call, w_callS, w_meth, w_op, w_attr, w_app, w_idx, w_dzip, w_lc, w_lcM, w_tru, w_nott, w_andt, w_ort, i_itv, i_rng1, i_rng2, i_enm, b_nil, b_cons, s_exp, s_doc, s_pass, s_brk, s_cont, s_never, s_set, s_asg, g_var, g_sub, g_tup, gs_nil, gs_cons, s_par, s_ret, s_retF, s_retN, s_ite, s_for, for_nil, s_attr, w_prp, w_dun, w_fmt, w_fst, js_nil, js_cons, w_xisi, s_raise0, s_par3, p_add, p_addS, p_addT, p_addL, p_addB, p_sub, p_mul, p_mulL, p_fdiv, p_mod, p_pow, p_neg, p_eqI, p_neI, p_eqS, p_neS, p_eqB, p_lt, p_le, p_gt, p_ge, p_isN, p_isNN, p_isB, p_isNB, p_inT, p_ninT, p_ninK, p_ixL, p_ixT, p_ixK, p_ixG, p_ixR, p_put, p_slL, p_slT, p_lenL, p_lenT, p_lenS, p_intI, p_abs, p_max, p_min, p_divmod, p_tupT, p_tupL, p_tupR, p_all, p_any, p_repr, p_isi, p_app, p_idx, p_itL, p_itT, p_rng1, p_rng2, p_enmT, p_enmL, p_fmtS, p_fmtI, p_dlenI, p_dreprI, p_dboolI, p_dlenL, p_dlenT, p_dlenS, p_dreprL, p_dreprT, p_dreprS, p_dreprN, p_dreprB, p_dreprO, p_dboolN, p_dboolB, p_dboolL, p_strI, p_strS, oto_some, slTo_v, tst_bl, asInt_int, asBl_bl, asLst_l, asRef_r, asL_l, asStr_s, asExn_e, List.set_cons_zero, List.set_cons_succ, List.getElem?_cons_zero, List.getElem?_cons_succ, List.length_cons, List.length_nil, List.nil_append, List.cons_append, List.append_nil, List.getElem?_set_self, List.length_set, List.set_set, p_dzip, p_putA, asIns_i, tn_non, tn_bl, tn_int, tn_str, tn_tup, tn_lst, tn_dK, tn_ins, asTn_ty, asTn_glo, tru_bl, tru_non, tru_int, tru_lst, tru_tup, truP_bl, truP_non, truP_int, truP_lst, truP_tup, isNon_non, isNon_int, isNon_tup, isNon_lst, isNon_str, isNon_ins, seqD_tup, seqD_lst, insOf_ins, atI_0, atI_1, atI_2, atI_3, atI_4, ixN_0, ixN_1, ixN_2, ixN_3, ixN_4]
  exact ⟨by decide, rfl, rfl⟩
theorem at_nm : ∀ x : Int, 0 ≤ x → x < 5 → atI nml x = some (.str (nm x.toNat)) := by
  intro x h0 h1
  have : x = 0 ∨ x = 1 ∨ x = 2 ∨ x = 3 ∨ x = 4 := by omega
  rcases this with rfl | rfl | rfl | rfl | rfl
  · exact atI_0
  · exact atI_1
  · exact atI_2
  · exact atI_3
  · exact atI_4
theorem at_ws {ws : List Int} {i : Nat} (h : i < ws.length) : atI (ws.map DV.D.int) (i : Int) = some (.int (ws.getD i 0)) := atI_get (by
  rw [List.getElem?_map, List.getD_eq_getElem?_getD, List.getElem?_eq_getElem h]
  rfl)
theorem e21 : (S (k + 1) 21 [] [a] st).to Q = (denB lw.tb (S k) is21 [.v a, .un] st).to (endPo Q) := enter (d := d21) (xs := [a]) rfl rfl
theorem hidden {l : Nat} {n : Int} (h : Pool n st l) (hn : n ≤ 2 ^ 50) : (S (k + 4) 21 [] [.ref l] st).to fun d st' => (∃ ws : List Int, d = .lst (ws.map .int) ∧ ws.length = 5 ∧ ∀ w ∈ ws, -(2 ^ 100) ≤ w ∧ w ≤ 2 ^ 100) ∧ Pool (n + 36) st' l ∧ FrS l st st' := by
  rw [e21]
  unfold is21
  try simp only [w_var, w_int, w_bl, w_non, w_str, w_gl, w_ty, w_bin, w_un, w_cmp, w_chain, w_and, w_or, w_not, w_ife, ev_nil, ev_cons, w_tup, w_lst, w_lstM, w_ix, part_nop, w_sl, w_bi, w_call, w_callS, w_meth, w_op, w_attr, w_app, w_idx, w_dzip, w_lc, w_lcM, w_tru, w_nott, w_andt, w_ort, i_itv, i_rng1, i_rng2, i_enm, b_nil, b_cons, s_exp, s_doc, s_pass, s_brk, s_cont, s_never, s_set, s_asg, g_var, g_sub, g_tup, gs_nil, gs_cons, s_par, s_ret, s_retF, s_retN, s_ite, s_for, for_nil, s_attr, w_prp, w_dun, w_fmt, w_fst, js_nil, js_cons, w_xisi, s_raise0, s_par3, p_add, p_addS, p_addT, p_addL, p_addB, p_sub, p_mul, p_mulL, p_fdiv, p_mod, p_pow, p_neg, p_eqI, p_neI, p_eqS, p_neS, p_eqB, p_lt, p_le, p_gt, p_ge, p_isN, p_isNN, p_isB, p_isNB, p_inT, p_ninT, p_ninK, p_ixL, p_ixT, p_ixK, p_ixG, p_ixR, p_put, p_slL, p_slT, p_lenL, p_lenT, p_lenS, p_intI, p_abs, p_max, p_min, p_divmod, p_tupT, p_tupL, p_tupR, p_all, p_any, p_repr, p_isi, p_app, p_idx, p_itL, p_itT, p_rng1, p_rng2, p_enmT, p_enmL, p_fmtS, p_fmtI, p_dlenI, p_dreprI, p_dboolI, p_dlenL, p_dlenT, p_dlenS, p_dreprL, p_dreprT, p_dreprS, p_dreprN, p_dreprB, p_dreprO, p_dboolN, p_dboolB, p_dboolL, p_strI, p_strS, oto_some, slTo_v, tst_bl, asInt_int, asBl_bl, asLst_l, asRef_r, asL_l, asStr_s, asExn_e, List.set_cons_zero, List.set_cons_succ, List.getElem?_cons_zero, List.getElem?_cons_succ, List.length_cons, List.length_nil, List.nil_append, List.cons_append, List.append_nil, List.getElem?_set_self, List.length_set, List.set_set, p_dzip, p_putA, asIns_i, tn_non, tn_bl, tn_int, tn_str, tn_tup, tn_lst, tn_dK, tn_ins, asTn_ty, asTn_glo, tru_bl, tru_non, tru_int, tru_lst, tru_tup, truP_bl, truP_non, truP_int, truP_lst, truP_tup, isNon_non, isNon_int, isNon_tup, isNon_lst, isNon_str, isNon_ins, seqD_tup, seqD_lst, insOf_ins, atI_0, atI_1, atI_2, atI_3, atI_4, ixN_0, ixN_1, ixN_2, ixN_3, ixN_4]
  refine ⟨by decide, by decide, ?_⟩
  refine lc_inv (fun ds acc st' => ∃ vs : List Int, acc = vs.map .int ∧ vs.length + ds.length = 4 ∧ (∀ w ∈ vs, -(2 ^ 100) ≤ w ∧ w ≤ 2 ^ 100) ∧ Pool (n + 9 * vs.length) st' l ∧ FrS l st st') ?_ ?_ _ _ _ ⟨[], rfl, rfl, (fun w hw => by cases hw), h.mono (by simp), .refl _ _⟩
  · rintro d ds acc st' ⟨vs, rfl, e, hb, hp, fr⟩
    have e' : vs.length + (ds.length + 1) = 4 := e
    try simp only [w_var, w_int, w_bl, w_non, w_str, w_gl, w_ty, w_bin, w_un, w_cmp, w_chain, w_and, w_or, w_not, w_ife, ev_nil, ev_cons, w_tup, w_lst, w_lstM, w_ix, part_nop, w_sl, w_bi, w_call, w_callS, w_meth, w_op, w_attr, w_app, w_idx, w_dzip, w_lc, w_lcM, w_tru, w_nott, w_andt, w_ort, i_itv, i_rng1, i_rng2, i_enm, b_nil, b_cons, s_exp, s_doc, s_pass, s_brk, s_cont, s_never, s_set, s_asg, g_var, g_sub, g_tup, gs_nil, gs_cons, s_par, s_ret, s_retF, s_retN, s_ite, s_for, for_nil, s_attr, w_prp, w_dun, w_fmt, w_fst, js_nil, js_cons, w_xisi, s_raise0, s_par3, p_add, p_addS, p_addT, p_addL, p_addB, p_sub, p_mul, p_mulL, p_fdiv, p_mod, p_pow, p_neg, p_eqI, p_neI, p_eqS, p_neS, p_eqB, p_lt, p_le, p_gt, p_ge, p_isN, p_isNN, p_isB, p_isNB, p_inT, p_ninT, p_ninK, p_ixL, p_ixT, p_ixK, p_ixG, p_ixR, p_put, p_slL, p_slT, p_lenL, p_lenT, p_lenS, p_intI, p_abs, p_max, p_min, p_divmod, p_tupT, p_tupL, p_tupR, p_all, p_any, p_repr, p_isi, p_app, p_idx, p_itL, p_itT, p_rng1, p_rng2, p_enmT, p_enmL, p_fmtS, p_fmtI, p_dlenI, p_dreprI, p_dboolI, p_dlenL, p_dlenT, p_dlenS, p_dreprL, p_dreprT, p_dreprS, p_dreprN, p_dreprB, p_dreprO, p_dboolN, p_dboolB, p_dboolL, p_strI, p_strS, oto_some, slTo_v, tst_bl, asInt_int, asBl_bl, asLst_l, asRef_r, asL_l, asStr_s, asExn_e, List.set_cons_zero, List.set_cons_succ, List.getElem?_cons_zero, List.getElem?_cons_succ, List.length_cons, List.length_nil, List.nil_append, List.cons_append, List.append_nil, Tgd.set, wipeD, List.getElem?_set_self, List.length_set, List.set_set, p_dzip, p_putA, asIns_i, tn_non, tn_bl, tn_int, tn_str, tn_tup, tn_lst, tn_dK, tn_ins, asTn_ty, asTn_glo, tru_bl, tru_non, tru_int, tru_lst, tru_tup, truP_bl, truP_non, truP_int, truP_lst, truP_tup, isNon_non, isNon_int, isNon_tup, isNon_lst, isNon_str, isNon_ins, seqD_tup, seqD_lst, insOf_ins, atI_0, atI_1, atI_2, atI_3, atI_4, ixN_0, ixN_1, ixN_2, ixN_3, ixN_4]
    rw [denT_nop]
    refine ⟨fun _ => ?_, fun z => by cases z⟩
    try simp only [w_var, w_int, w_bl, w_non, w_str, w_gl, w_ty, w_bin, w_un, w_cmp, w_chain, w_and, w_or, w_not, w_ife, ev_nil, ev_cons, w_tup, w_lst, w_lstM, w_ix, part_nop, w_sl, w_bi, w_call, w_callS, w_meth, w_op, w_attr, w_app, w_idx, w_dzip, w_lc, w_lcM, w_tru, w_nott, w_andt, w_ort, i_itv, i_rng1, i_rng2, i_enm, b_nil, b_cons, s_exp, s_doc, s_pass, s_brk, s_cont, s_never, s_set, s_asg, g_var, g_sub, g_tup, gs_nil, gs_cons, s_par, s_ret, s_retF, s_retN, s_ite, s_for, for_nil, s_attr, w_prp, w_dun, w_fmt, w_fst, js_nil, js_cons, w_xisi, s_raise0, s_par3, p_add, p_addS, p_addT, p_addL, p_addB, p_sub, p_mul, p_mulL, p_fdiv, p_mod, p_pow, p_neg, p_eqI, p_neI, p_eqS, p_neS, p_eqB, p_lt, p_le, p_gt, p_ge, p_isN, p_isNN, p_isB, p_isNB, p_inT, p_ninT, p_ninK, p_ixL, p_ixT, p_ixK, p_ixG, p_ixR, p_put, p_slL, p_slT, p_lenL, p_lenT, p_lenS, p_intI, p_abs, p_max, p_min, p_divmod, p_tupT, p_tupL, p_tupR, p_all, p_any, p_repr, p_isi, p_app, p_idx, p_itL, p_itT, p_rng1, p_rng2, p_enmT, p_enmL, p_fmtS, p_fmtI, p_dlenI, p_dreprI, p_dboolI, p_dlenL, p_dlenT, p_dlenS, p_dreprL, p_dreprT, p_dreprS, p_dreprN, p_dreprB, p_dreprO, p_dboolN, p_dboolB, p_dboolL, p_strI, p_strS, oto_some, slTo_v, tst_bl, asInt_int, asBl_bl, asLst_l, asRef_r, asL_l, asStr_s, asExn_e, List.set_cons_zero, List.set_cons_succ, List.getElem?_cons_zero, List.getElem?_cons_succ, List.length_cons, List.length_nil, List.nil_append, List.cons_append, List.append_nil, List.getElem?_set_self, List.length_set, List.set_set, p_dzip, p_putA, asIns_i, tn_non, tn_bl, tn_int, tn_str, tn_tup, tn_lst, tn_dK, tn_ins, asTn_ty, asTn_glo, tru_bl, tru_non, tru_int, tru_lst, tru_tup, truP_bl, truP_non, truP_int, truP_lst, truP_tup, isNon_non, isNon_int, isNon_tup, isNon_lst, isNon_str, isNon_ins, seqD_tup, seqD_lst, insOf_ins, atI_0, atI_1, atI_2, atI_3, atI_4, ixN_0, ixN_1, ixN_2, ixN_3, ixN_4]
    refine ⟨True.intro, R.to_mono (integer hp (by omega)) ?_⟩
    rintro _ st2 ⟨⟨v, rfl, v0, v1⟩, h2, f2⟩
    refine ⟨Nat.lt_of_lt_of_le (show (vs.map DV.D.int).length < 10 by rw [List.length_map]; omega) (by decide), vs ++ [v], by simp, by simp; omega, (fun w hw => (List.mem_append.mp hw).elim (hb w) fun z => by rw [List.mem_singleton.mp z]; exact ⟨v0, v1⟩), h2.mono (by simp; omega), fr.trans f2⟩
  · rintro acc st' ⟨vs, rfl, e, hb, hp, fr⟩
    have e' : vs.length = 4 := by simpa using e
    try simp only [w_var, w_int, w_bl, w_non, w_str, w_gl, w_ty, w_bin, w_un, w_cmp, w_chain, w_and, w_or, w_not, w_ife, ev_nil, ev_cons, w_tup, w_lst, w_lstM, w_ix, part_nop, w_sl, w_bi, w_call, w_callS, w_meth, w_op, w_attr, w_app, w_idx, w_dzip, w_lc, w_lcM, w_tru, w_nott, w_andt, w_ort, i_itv, i_rng1, i_rng2, i_enm, b_nil, b_cons, s_exp, s_doc, s_pass, s_brk, s_cont, s_never, s_set, s_asg, g_var, g_sub, g_tup, gs_nil, gs_cons, s_par, s_ret, s_retF, s_retN, s_ite, s_for, for_nil, s_attr, w_prp, w_dun, w_fmt, w_fst, js_nil, js_cons, w_xisi, s_raise0, s_par3, p_add, p_addS, p_addT, p_addL, p_addB, p_sub, p_mul, p_mulL, p_fdiv, p_mod, p_pow, p_neg, p_eqI, p_neI, p_eqS, p_neS, p_eqB, p_lt, p_le, p_gt, p_ge, p_isN, p_isNN, p_isB, p_isNB, p_inT, p_ninT, p_ninK, p_ixL, p_ixT, p_ixK, p_ixG, p_ixR, p_put, p_slL, p_slT, p_lenL, p_lenT, p_lenS, p_intI, p_abs, p_max, p_min, p_divmod, p_tupT, p_tupL, p_tupR, p_all, p_any, p_repr, p_isi, p_app, p_idx, p_itL, p_itT, p_rng1, p_rng2, p_enmT, p_enmL, p_fmtS, p_fmtI, p_dlenI, p_dreprI, p_dboolI, p_dlenL, p_dlenT, p_dlenS, p_dreprL, p_dreprT, p_dreprS, p_dreprN, p_dreprB, p_dreprO, p_dboolN, p_dboolB, p_dboolL, p_strI, p_strS, oto_some, slTo_v, tst_bl, asInt_int, asBl_bl, asLst_l, asRef_r, asL_l, asStr_s, asExn_e, List.set_cons_zero, List.set_cons_succ, List.getElem?_cons_zero, List.getElem?_cons_succ, List.length_cons, List.length_nil, List.nil_append, List.cons_append, List.append_nil, List.getElem?_set_self, List.length_set, List.set_set, p_dzip, p_putA, asIns_i, tn_non, tn_bl, tn_int, tn_str, tn_tup, tn_lst, tn_dK, tn_ins, asTn_ty, asTn_glo, tru_bl, tru_non, tru_int, tru_lst, tru_tup, truP_bl, truP_non, truP_int, truP_lst, truP_tup, isNon_non, isNon_int, isNon_tup, isNon_lst, isNon_str, isNon_ins, seqD_tup, seqD_lst, insOf_ins, atI_0, atI_1, atI_2, atI_3, atI_4, ixN_0, ixN_1, ixN_2, ixN_3, ixN_4]
    refine ⟨by rw [List.length_map, e']; decide, ⟨0 :: vs, rfl, by simp [e'], fun w hw => (List.mem_cons.mp hw).elim (fun z => by rw [z]; decide) (hb w)⟩, hp.mono (by omega), fr⟩
theorem e22 : (S (k + 1) 22 [] [a, b] st).to Q = (denB lw.tb (S k) is22 [.v a, .v b, .un, .un, .un, .un] st).to (endPo Q) := enter (d := d22) (xs := [a, b]) rfl rfl
/-- the hidden integer of a point -/
def hid (ws : List Int) (i : Nat) : Int := ws.getD i 0
def Holds (ws : List Int) (f : Fc) : Prop := hid ws f.1 ≤ hid ws f.2.1 + f.2.2
theorem trueFact {l : Nat} {n : Int} {ws : List Int} (h : Pool n st l) (hn : n ≤ 2 ^ 50) (h5 : ws.length = 5) : (S (k + 4) 22 [] [.ref l, .lst (ws.map .int)] st).to fun d st' => (∃ f, d = fD f ∧ Fok 5 f ∧ Holds ws f ∧ f.2.2 ≤ hid ws f.1 - hid ws f.2.1 + 2 ^ 100) ∧ Pool (n + 12) st' l ∧ FrS l st st' := by
  rw [e22]
  unfold is22
  try simp only [w_var, w_int, w_bl, w_non, w_str, w_gl, w_ty, w_bin, w_un, w_cmp, w_chain, w_and, w_or, w_not, w_ife, ev_nil, ev_cons, w_tup, w_lst, w_lstM, w_ix, part_nop, w_sl, w_bi, w_call, w_callS, w_meth, w_op, w_attr, w_app, w_idx, w_dzip, w_lc, w_lcM, w_tru, w_nott, w_andt, w_ort, i_itv, i_rng1, i_rng2, i_enm, b_nil, b_cons, s_exp, s_doc, s_pass, s_brk, s_cont, s_never, s_set, s_asg, g_var, g_sub, g_tup, gs_nil, gs_cons, s_par, s_ret, s_retF, s_retN, s_ite, s_for, for_nil, s_attr, w_prp, w_dun, w_fmt, w_fst, js_nil, js_cons, w_xisi, s_raise0, s_par3, p_add, p_addS, p_addT, p_addL, p_addB, p_sub, p_mul, p_mulL, p_fdiv, p_mod, p_pow, p_neg, p_eqI, p_neI, p_eqS, p_neS, p_eqB, p_lt, p_le, p_gt, p_ge, p_isN, p_isNN, p_isB, p_isNB, p_inT, p_ninT, p_ninK, p_ixL, p_ixT, p_ixK, p_ixG, p_ixR, p_put, p_slL, p_slT, p_lenL, p_lenT, p_lenS, p_intI, p_abs, p_max, p_min, p_divmod, p_tupT, p_tupL, p_tupR, p_all, p_any, p_repr, p_isi, p_app, p_idx, p_itL, p_itT, p_rng1, p_rng2, p_enmT, p_enmL, p_fmtS, p_fmtI, p_dlenI, p_dreprI, p_dboolI, p_dlenL, p_dlenT, p_dlenS, p_dreprL, p_dreprT, p_dreprS, p_dreprN, p_dreprB, p_dreprO, p_dboolN, p_dboolB, p_dboolL, p_strI, p_strS, oto_some, slTo_v, tst_bl, asInt_int, asBl_bl, asLst_l, asRef_r, asL_l, asStr_s, asExn_e, List.set_cons_zero, List.set_cons_succ, List.getElem?_cons_zero, List.getElem?_cons_succ, List.length_cons, List.length_nil, List.nil_append, List.cons_append, List.append_nil, List.getElem?_set_self, List.length_set, List.set_set, p_dzip, p_putA, asIns_i, tn_non, tn_bl, tn_int, tn_str, tn_tup, tn_lst, tn_dK, tn_ins, asTn_ty, asTn_glo, tru_bl, tru_non, tru_int, tru_lst, tru_tup, truP_bl, truP_non, truP_int, truP_lst, truP_tup, isNon_non, isNon_int, isNon_tup, isNon_lst, isNon_str, isNon_ins, seqD_tup, seqD_lst, insOf_ins, atI_0, atI_1, atI_2, atI_3, atI_4, ixN_0, ixN_1, ixN_2, ixN_3, ixN_4]
  refine ⟨True.intro, R.to_mono (draw h (by omega) (by omega) (by omega)) ?_⟩
  rintro _ st1 ⟨⟨x, rfl, x0, x1⟩, h1, f1⟩
  try simp only [w_var, w_int, w_bl, w_non, w_str, w_gl, w_ty, w_bin, w_un, w_cmp, w_chain, w_and, w_or, w_not, w_ife, ev_nil, ev_cons, w_tup, w_lst, w_lstM, w_ix, part_nop, w_sl, w_bi, w_call, w_callS, w_meth, w_op, w_attr, w_app, w_idx, w_dzip, w_lc, w_lcM, w_tru, w_nott, w_andt, w_ort, i_itv, i_rng1, i_rng2, i_enm, b_nil, b_cons, s_exp, s_doc, s_pass, s_brk, s_cont, s_never, s_set, s_asg, g_var, g_sub, g_tup, gs_nil, gs_cons, s_par, s_ret, s_retF, s_retN, s_ite, s_for, for_nil, s_attr, w_prp, w_dun, w_fmt, w_fst, js_nil, js_cons, w_xisi, s_raise0, s_par3, p_add, p_addS, p_addT, p_addL, p_addB, p_sub, p_mul, p_mulL, p_fdiv, p_mod, p_pow, p_neg, p_eqI, p_neI, p_eqS, p_neS, p_eqB, p_lt, p_le, p_gt, p_ge, p_isN, p_isNN, p_isB, p_isNB, p_inT, p_ninT, p_ninK, p_ixL, p_ixT, p_ixK, p_ixG, p_ixR, p_put, p_slL, p_slT, p_lenL, p_lenT, p_lenS, p_intI, p_abs, p_max, p_min, p_divmod, p_tupT, p_tupL, p_tupR, p_all, p_any, p_repr, p_isi, p_app, p_idx, p_itL, p_itT, p_rng1, p_rng2, p_enmT, p_enmL, p_fmtS, p_fmtI, p_dlenI, p_dreprI, p_dboolI, p_dlenL, p_dlenT, p_dlenS, p_dreprL, p_dreprT, p_dreprS, p_dreprN, p_dreprB, p_dreprO, p_dboolN, p_dboolB, p_dboolL, p_strI, p_strS, oto_some, slTo_v, tst_bl, asInt_int, asBl_bl, asLst_l, asRef_r, asL_l, asStr_s, asExn_e, List.set_cons_zero, List.set_cons_succ, List.getElem?_cons_zero, List.getElem?_cons_succ, List.length_cons, List.length_nil, List.nil_append, List.cons_append, List.append_nil, List.getElem?_set_self, List.length_set, List.set_set, p_dzip, p_putA, asIns_i, tn_non, tn_bl, tn_int, tn_str, tn_tup, tn_lst, tn_dK, tn_ins, asTn_ty, asTn_glo, tru_bl, tru_non, tru_int, tru_lst, tru_tup, truP_bl, truP_non, truP_int, truP_lst, truP_tup, isNon_non, isNon_int, isNon_tup, isNon_lst, isNon_str, isNon_ins, seqD_tup, seqD_lst, insOf_ins, atI_0, atI_1, atI_2, atI_3, atI_4, ixN_0, ixN_1, ixN_2, ixN_3, ixN_4]
  refine ⟨True.intro, R.to_mono (draw h1 (by omega) (by omega) (by omega)) ?_⟩
  rintro _ st2 ⟨⟨y, rfl, y0, y1⟩, h2', f2⟩
  try simp only [w_var, w_int, w_bl, w_non, w_str, w_gl, w_ty, w_bin, w_un, w_cmp, w_chain, w_and, w_or, w_not, w_ife, ev_nil, ev_cons, w_tup, w_lst, w_lstM, w_ix, part_nop, w_sl, w_bi, w_call, w_callS, w_meth, w_op, w_attr, w_app, w_idx, w_dzip, w_lc, w_lcM, w_tru, w_nott, w_andt, w_ort, i_itv, i_rng1, i_rng2, i_enm, b_nil, b_cons, s_exp, s_doc, s_pass, s_brk, s_cont, s_never, s_set, s_asg, g_var, g_sub, g_tup, gs_nil, gs_cons, s_par, s_ret, s_retF, s_retN, s_ite, s_for, for_nil, s_attr, w_prp, w_dun, w_fmt, w_fst, js_nil, js_cons, w_xisi, s_raise0, s_par3, p_add, p_addS, p_addT, p_addL, p_addB, p_sub, p_mul, p_mulL, p_fdiv, p_mod, p_pow, p_neg, p_eqI, p_neI, p_eqS, p_neS, p_eqB, p_lt, p_le, p_gt, p_ge, p_isN, p_isNN, p_isB, p_isNB, p_inT, p_ninT, p_ninK, p_ixL, p_ixT, p_ixK, p_ixG, p_ixR, p_put, p_slL, p_slT, p_lenL, p_lenT, p_lenS, p_intI, p_abs, p_max, p_min, p_divmod, p_tupT, p_tupL, p_tupR, p_all, p_any, p_repr, p_isi, p_app, p_idx, p_itL, p_itT, p_rng1, p_rng2, p_enmT, p_enmL, p_fmtS, p_fmtI, p_dlenI, p_dreprI, p_dboolI, p_dlenL, p_dlenT, p_dlenS, p_dreprL, p_dreprT, p_dreprS, p_dreprN, p_dreprB, p_dreprO, p_dboolN, p_dboolB, p_dboolL, p_strI, p_strS, oto_some, slTo_v, tst_bl, asInt_int, asBl_bl, asLst_l, asRef_r, asL_l, asStr_s, asExn_e, List.set_cons_zero, List.set_cons_succ, List.getElem?_cons_zero, List.getElem?_cons_succ, List.length_cons, List.length_nil, List.nil_append, List.cons_append, List.append_nil, List.getElem?_set_self, List.length_set, List.set_set, p_dzip, p_putA, asIns_i, tn_non, tn_bl, tn_int, tn_str, tn_tup, tn_lst, tn_dK, tn_ins, asTn_ty, asTn_glo, tru_bl, tru_non, tru_int, tru_lst, tru_tup, truP_bl, truP_non, truP_int, truP_lst, truP_tup, isNon_non, isNon_int, isNon_tup, isNon_lst, isNon_str, isNon_ins, seqD_tup, seqD_lst, insOf_ins, atI_0, atI_1, atI_2, atI_3, atI_4, ixN_0, ixN_1, ixN_2, ixN_3, ixN_4]
  refine ⟨by decide, True.intro, R.to_mono (draw h2' (by omega) (by decide) (by decide)) ?_⟩
  rintro _ st3 ⟨⟨w, rfl, w0, w1⟩, h3, f3⟩
  obtain ⟨y', hy, y'0, y'1, yx⟩ : ∃ y' : Int, y' = (x + 1 + y) % 5 ∧ 0 ≤ y' ∧ y' < 5 ∧ y' ≠ x := ⟨_, rfl, by omega, by omega, by omega⟩
  have ex : ((x.toNat : Nat) : Int) = x := Int.toNat_of_nonneg x0
  have ey : ((y'.toNat : Nat) : Int) = y' := Int.toNat_of_nonneg y'0
  have ax : atI (ws.map DV.D.int) x = some (.int (ws.getD x.toNat 0)) := by
    have := at_ws (ws := ws) (i := x.toNat) (by omega)
    rw [ex] at this
    exact this
  have ay : atI (ws.map DV.D.int) y' = some (.int (ws.getD y'.toNat 0)) := by
    have := at_ws (ws := ws) (i := y'.toNat) (by omega)
    rw [ey] at this
    exact this
  have nx := at_nm x x0 x1
  have ny := at_nm y' y'0 y'1
  -- the fact that is told
  have big : (10 : Int) ^ (30 : Int).toNat ≤ 2 ^ 100 := by decide
  have fin : ∀ (m : Int) (st4 : Store), 0 ≤ m → m ≤ 2 ^ 100 → Pool (n + 12) st4 l → FrS l st st4 → (denB lw.tb (S (k + 3)) [IS.ret (IE.tup [IE.ix (IE.call 20 [] [] []) (IE.var 2), IE.ix (IE.call 20 [] [] []) (IE.var 3), IE.bin .Add (IE.bin .Sub (IE.ix (IE.var 1) (IE.var 2)) (IE.ix (IE.var 1) (IE.var 3))) (IE.var 5)])]
      [.v (.ref l), .v (.lst (ws.map .int)), .v (.int x), .v (.int y'), .v (.int w), .v (.int m)] st4).to (endPo fun d st' => (∃ f, d = fD f ∧ Fok 5 f ∧ Holds ws f ∧ f.2.2 ≤ hid ws f.1 - hid ws f.2.1 + 2 ^ 100) ∧ Pool (n + 12) st' l ∧ FrS l st st') := by
    intro m st4 hm hm2 hp fr
    try simp only [w_var, w_int, w_bl, w_non, w_str, w_gl, w_ty, w_bin, w_un, w_cmp, w_chain, w_and, w_or, w_not, w_ife, ev_nil, ev_cons, w_tup, w_lst, w_lstM, w_ix, part_nop, w_sl, w_bi, w_call, w_callS, w_meth, w_op, w_attr, w_app, w_idx, w_dzip, w_lc, w_lcM, w_tru, w_nott, w_andt, w_ort, i_itv, i_rng1, i_rng2, i_enm, b_nil, b_cons, s_exp, s_doc, s_pass, s_brk, s_cont, s_never, s_set, s_asg, g_var, g_sub, g_tup, gs_nil, gs_cons, s_par, s_ret, s_retF, s_retN, s_ite, s_for, for_nil, s_attr, w_prp, w_dun, w_fmt, w_fst, js_nil, js_cons, w_xisi, s_raise0, s_par3, p_add, p_addS, p_addT, p_addL, p_addB, p_sub, p_mul, p_mulL, p_fdiv, p_mod, p_pow, p_neg, p_eqI, p_neI, p_eqS, p_neS, p_eqB, p_lt, p_le, p_gt, p_ge, p_isN, p_isNN, p_isB, p_isNB, p_inT, p_ninT, p_ninK, p_ixL, p_ixT, p_ixK, p_ixG, p_ixR, p_put, p_slL, p_slT, p_lenL, p_lenT, p_lenS, p_intI, p_abs, p_max, p_min, p_divmod, p_tupT, p_tupL, p_tupR, p_all, p_any, p_repr, p_isi, p_app, p_idx, p_itL, p_itT, p_rng1, p_rng2, p_enmT, p_enmL, p_fmtS, p_fmtI, p_dlenI, p_dreprI, p_dboolI, p_dlenL, p_dlenT, p_dlenS, p_dreprL, p_dreprT, p_dreprS, p_dreprN, p_dreprB, p_dreprO, p_dboolN, p_dboolB, p_dboolL, p_strI, p_strS, oto_some, slTo_v, tst_bl, asInt_int, asBl_bl, asLst_l, asRef_r, asL_l, asStr_s, asExn_e, List.set_cons_zero, List.set_cons_succ, List.getElem?_cons_zero, List.getElem?_cons_succ, List.length_cons, List.length_nil, List.nil_append, List.cons_append, List.append_nil, List.getElem?_set_self, List.length_set, List.set_set, p_dzip, p_putA, asIns_i, tn_non, tn_bl, tn_int, tn_str, tn_tup, tn_lst, tn_dK, tn_ins, asTn_ty, asTn_glo, tru_bl, tru_non, tru_int, tru_lst, tru_tup, truP_bl, truP_non, truP_int, truP_lst, truP_tup, isNon_non, isNon_int, isNon_tup, isNon_lst, isNon_str, isNon_ins, seqD_tup, seqD_lst, insOf_ins, atI_0, atI_1, atI_2, atI_3, atI_4, ixN_0, ixN_1, ixN_2, ixN_3, ixN_4]
    refine ⟨True.intro, R.to_mono names20 ?_⟩
    rintro _ st5 ⟨rfl, e5⟩
    have e5 := e5.symm
    subst e5
    try simp only [w_var, w_int, w_bl, w_non, w_str, w_gl, w_ty, w_bin, w_un, w_cmp, w_chain, w_and, w_or, w_not, w_ife, ev_nil, ev_cons, w_tup, w_lst, w_lstM, w_ix, part_nop, w_sl, w_bi, w_call, w_callS, w_meth, w_op, w_attr, w_app, w_idx, w_dzip, w_lc, w_lcM, w_tru, w_nott, w_andt, w_ort, i_itv, i_rng1, i_rng2, i_enm, b_nil, b_cons, s_exp, s_doc, s_pass, s_brk, s_cont, s_never, s_set, s_asg, g_var, g_sub, g_tup, gs_nil, gs_cons, s_par, s_ret, s_retF, s_retN, s_ite, s_for, for_nil, s_attr, w_prp, w_dun, w_fmt, w_fst, js_nil, js_cons, w_xisi, s_raise0, s_par3, p_add, p_addS, p_addT, p_addL, p_addB, p_sub, p_mul, p_mulL, p_fdiv, p_mod, p_pow, p_neg, p_eqI, p_neI, p_eqS, p_neS, p_eqB, p_lt, p_le, p_gt, p_ge, p_isN, p_isNN, p_isB, p_isNB, p_inT, p_ninT, p_ninK, p_ixL, p_ixT, p_ixK, p_ixG, p_ixR, p_put, p_slL, p_slT, p_lenL, p_lenT, p_lenS, p_intI, p_abs, p_max, p_min, p_divmod, p_tupT, p_tupL, p_tupR, p_all, p_any, p_repr, p_isi, p_app, p_idx, p_itL, p_itT, p_rng1, p_rng2, p_enmT, p_enmL, p_fmtS, p_fmtI, p_dlenI, p_dreprI, p_dboolI, p_dlenL, p_dlenT, p_dlenS, p_dreprL, p_dreprT, p_dreprS, p_dreprN, p_dreprB, p_dreprO, p_dboolN, p_dboolB, p_dboolL, p_strI, p_strS, oto_some, slTo_v, tst_bl, asInt_int, asBl_bl, asLst_l, asRef_r, asL_l, asStr_s, asExn_e, List.set_cons_zero, List.set_cons_succ, List.getElem?_cons_zero, List.getElem?_cons_succ, List.length_cons, List.length_nil, List.nil_append, List.cons_append, List.append_nil, nx, List.getElem?_set_self, List.length_set, List.set_set, p_dzip, p_putA, asIns_i, tn_non, tn_bl, tn_int, tn_str, tn_tup, tn_lst, tn_dK, tn_ins, asTn_ty, asTn_glo, tru_bl, tru_non, tru_int, tru_lst, tru_tup, truP_bl, truP_non, truP_int, truP_lst, truP_tup, isNon_non, isNon_int, isNon_tup, isNon_lst, isNon_str, isNon_ins, seqD_tup, seqD_lst, insOf_ins, atI_0, atI_1, atI_2, atI_3, atI_4, ixN_0, ixN_1, ixN_2, ixN_3, ixN_4]
    refine ⟨True.intro, R.to_mono names20 ?_⟩
    rintro _ st5 ⟨rfl, e5⟩
    have e5 := e5.symm
    subst e5
    try simp only [w_var, w_int, w_bl, w_non, w_str, w_gl, w_ty, w_bin, w_un, w_cmp, w_chain, w_and, w_or, w_not, w_ife, ev_nil, ev_cons, w_tup, w_lst, w_lstM, w_ix, part_nop, w_sl, w_bi, w_call, w_callS, w_meth, w_op, w_attr, w_app, w_idx, w_dzip, w_lc, w_lcM, w_tru, w_nott, w_andt, w_ort, i_itv, i_rng1, i_rng2, i_enm, b_nil, b_cons, s_exp, s_doc, s_pass, s_brk, s_cont, s_never, s_set, s_asg, g_var, g_sub, g_tup, gs_nil, gs_cons, s_par, s_ret, s_retF, s_retN, s_ite, s_for, for_nil, s_attr, w_prp, w_dun, w_fmt, w_fst, js_nil, js_cons, w_xisi, s_raise0, s_par3, p_add, p_addS, p_addT, p_addL, p_addB, p_sub, p_mul, p_mulL, p_fdiv, p_mod, p_pow, p_neg, p_eqI, p_neI, p_eqS, p_neS, p_eqB, p_lt, p_le, p_gt, p_ge, p_isN, p_isNN, p_isB, p_isNB, p_inT, p_ninT, p_ninK, p_ixL, p_ixT, p_ixK, p_ixG, p_ixR, p_put, p_slL, p_slT, p_lenL, p_lenT, p_lenS, p_intI, p_abs, p_max, p_min, p_divmod, p_tupT, p_tupL, p_tupR, p_all, p_any, p_repr, p_isi, p_app, p_idx, p_itL, p_itT, p_rng1, p_rng2, p_enmT, p_enmL, p_fmtS, p_fmtI, p_dlenI, p_dreprI, p_dboolI, p_dlenL, p_dlenT, p_dlenS, p_dreprL, p_dreprT, p_dreprS, p_dreprN, p_dreprB, p_dreprO, p_dboolN, p_dboolB, p_dboolL, p_strI, p_strS, oto_some, slTo_v, tst_bl, asInt_int, asBl_bl, asLst_l, asRef_r, asL_l, asStr_s, asExn_e, List.set_cons_zero, List.set_cons_succ, List.getElem?_cons_zero, List.getElem?_cons_succ, List.length_cons, List.length_nil, List.nil_append, List.cons_append, List.append_nil, ny, ax, ay, List.getElem?_set_self, List.length_set, List.set_set, p_dzip, p_putA, asIns_i, tn_non, tn_bl, tn_int, tn_str, tn_tup, tn_lst, tn_dK, tn_ins, asTn_ty, asTn_glo, tru_bl, tru_non, tru_int, tru_lst, tru_tup, truP_bl, truP_non, truP_int, truP_lst, truP_tup, isNon_non, isNon_int, isNon_tup, isNon_lst, isNon_str, isNon_ins, seqD_tup, seqD_lst, insOf_ins, atI_0, atI_1, atI_2, atI_3, atI_4, ixN_0, ixN_1, ixN_2, ixN_3, ixN_4]
    refine ⟨by decide, ⟨(x.toNat, y'.toNat, _), rfl, ⟨by show x.toNat < 5; omega, by show y'.toNat < 5; omega, by show x.toNat ≠ y'.toNat; omega⟩, ?_, ?_⟩, hp, fr⟩
    · show ws.getD x.toNat 0 ≤ ws.getD y'.toNat 0 + (ws.getD x.toNat 0 - ws.getD y'.toNat 0 + m)
      omega
    · show ws.getD x.toNat 0 - ws.getD y'.toNat 0 + m ≤ ws.getD x.toNat 0 - ws.getD y'.toNat 0 + 2 ^ 100
      omega
  try simp only [w_var, w_int, w_bl, w_non, w_str, w_gl, w_ty, w_bin, w_un, w_cmp, w_chain, w_and, w_or, w_not, w_ife, ev_nil, ev_cons, w_tup, w_lst, w_lstM, w_ix, part_nop, w_sl, w_bi, w_call, w_callS, w_meth, w_op, w_attr, w_app, w_idx, w_dzip, w_lc, w_lcM, w_tru, w_nott, w_andt, w_ort, i_itv, i_rng1, i_rng2, i_enm, b_nil, b_cons, s_exp, s_doc, s_pass, s_brk, s_cont, s_never, s_set, s_asg, g_var, g_sub, g_tup, gs_nil, gs_cons, s_par, s_ret, s_retF, s_retN, s_ite, s_for, for_nil, s_attr, w_prp, w_dun, w_fmt, w_fst, js_nil, js_cons, w_xisi, s_raise0, s_par3, p_add, p_addS, p_addT, p_addL, p_addB, p_sub, p_mul, p_mulL, p_fdiv, p_mod, p_pow, p_neg, p_eqI, p_neI, p_eqS, p_neS, p_eqB, p_lt, p_le, p_gt, p_ge, p_isN, p_isNN, p_isB, p_isNB, p_inT, p_ninT, p_ninK, p_ixL, p_ixT, p_ixK, p_ixG, p_ixR, p_put, p_slL, p_slT, p_lenL, p_lenT, p_lenS, p_intI, p_abs, p_max, p_min, p_divmod, p_tupT, p_tupL, p_tupR, p_all, p_any, p_repr, p_isi, p_app, p_idx, p_itL, p_itT, p_rng1, p_rng2, p_enmT, p_enmL, p_fmtS, p_fmtI, p_dlenI, p_dreprI, p_dboolI, p_dlenL, p_dlenT, p_dlenS, p_dreprL, p_dreprT, p_dreprS, p_dreprN, p_dreprB, p_dreprO, p_dboolN, p_dboolB, p_dboolL, p_strI, p_strS, oto_some, slTo_v, tst_bl, asInt_int, asBl_bl, asLst_l, asRef_r, asL_l, asStr_s, asExn_e, List.set_cons_zero, List.set_cons_succ, List.getElem?_cons_zero, List.getElem?_cons_succ, List.length_cons, List.length_nil, List.nil_append, List.cons_append, List.append_nil, List.getElem?_set_self, List.length_set, List.set_set, p_dzip, p_putA, asIns_i, tn_non, tn_bl, tn_int, tn_str, tn_tup, tn_lst, tn_dK, tn_ins, asTn_ty, asTn_glo, tru_bl, tru_non, tru_int, tru_lst, tru_tup, truP_bl, truP_non, truP_int, truP_lst, truP_tup, isNon_non, isNon_int, isNon_tup, isNon_lst, isNon_str, isNon_ins, seqD_tup, seqD_lst, insOf_ins, atI_0, atI_1, atI_2, atI_3, atI_4, ixN_0, ixN_1, ixN_2, ixN_3, ixN_4] at fin
  rw [← hy]
  try simp only [w_var, w_int, w_bl, w_non, w_str, w_gl, w_ty, w_bin, w_un, w_cmp, w_chain, w_and, w_or, w_not, w_ife, ev_nil, ev_cons, w_tup, w_lst, w_lstM, w_ix, part_nop, w_sl, w_bi, w_call, w_callS, w_meth, w_op, w_attr, w_app, w_idx, w_dzip, w_lc, w_lcM, w_tru, w_nott, w_andt, w_ort, i_itv, i_rng1, i_rng2, i_enm, b_nil, b_cons, s_exp, s_doc, s_pass, s_brk, s_cont, s_never, s_set, s_asg, g_var, g_sub, g_tup, gs_nil, gs_cons, s_par, s_ret, s_retF, s_retN, s_ite, s_for, for_nil, s_attr, w_prp, w_dun, w_fmt, w_fst, js_nil, js_cons, w_xisi, s_raise0, s_par3, p_add, p_addS, p_addT, p_addL, p_addB, p_sub, p_mul, p_mulL, p_fdiv, p_mod, p_pow, p_neg, p_eqI, p_neI, p_eqS, p_neS, p_eqB, p_lt, p_le, p_gt, p_ge, p_isN, p_isNN, p_isB, p_isNB, p_inT, p_ninT, p_ninK, p_ixL, p_ixT, p_ixK, p_ixG, p_ixR, p_put, p_slL, p_slT, p_lenL, p_lenT, p_lenS, p_intI, p_abs, p_max, p_min, p_divmod, p_tupT, p_tupL, p_tupR, p_all, p_any, p_repr, p_isi, p_app, p_idx, p_itL, p_itT, p_rng1, p_rng2, p_enmT, p_enmL, p_fmtS, p_fmtI, p_dlenI, p_dreprI, p_dboolI, p_dlenL, p_dlenT, p_dlenS, p_dreprL, p_dreprT, p_dreprS, p_dreprN, p_dreprB, p_dreprO, p_dboolN, p_dboolB, p_dboolL, p_strI, p_strS, oto_some, slTo_v, tst_bl, asInt_int, asBl_bl, asLst_l, asRef_r, asL_l, asStr_s, asExn_e, List.set_cons_zero, List.set_cons_succ, List.getElem?_cons_zero, List.getElem?_cons_succ, List.length_cons, List.length_nil, List.nil_append, List.cons_append, List.append_nil, List.getElem?_set_self, List.length_set, List.set_set, p_dzip, p_putA, asIns_i, tn_non, tn_bl, tn_int, tn_str, tn_tup, tn_lst, tn_dK, tn_ins, asTn_ty, asTn_glo, tru_bl, tru_non, tru_int, tru_lst, tru_tup, truP_bl, truP_non, truP_int, truP_lst, truP_tup, isNon_non, isNon_int, isNon_tup, isNon_lst, isNon_str, isNon_ins, seqD_tup, seqD_lst, insOf_ins, atI_0, atI_1, atI_2, atI_3, atI_4, ixN_0, ixN_1, ixN_2, ixN_3, ixN_4]
  refine ⟨fun q => ⟨fun q2 => ⟨fun q3 => ⟨True.intro, R.to_mono (draw h3 (by omega) (by decide) (by decide)) ?_⟩, fun q3 => ⟨by decide, True.intro, R.to_mono (far h3 (by omega) (by decide)) ?_⟩⟩, fun q2 => fin 1 st3 (by decide) (by decide) (h3.mono (by omega)) (f1.trans (f2.trans f3))⟩, fun q => ⟨fun q2 => ?_, fun q2 => fin 0 st3 (by decide) (by decide) (h3.mono (by omega)) (f1.trans (f2.trans f3))⟩⟩
  · rintro _ st4 ⟨⟨v, rfl, v0, v1⟩, h4, f4⟩
    exact fin v st4 v0 (by omega) (h4.mono (by omega)) (f1.trans (f2.trans (f3.trans f4)))
  · rintro _ st4 ⟨⟨v, rfl, v0, v1⟩, h4, f4⟩
    exact fin v st4 v0 (by omega) (h4.mono (by omega)) (f1.trans (f2.trans (f3.trans f4)))
  · have h1 := of_decide_eq_false q
    have h2 := of_decide_eq_true q2
    omega
end
end K22

namespace K22
open PySem PySem.Spec PyProof.Rows L2 DV
section
variable {k : Nat} {st : Store} {Q : DV.D → Store → Prop} {a b c d : DV.D}
theorem e24 : (S (k + 1) 24 [] [a] st).to Q = (denB lw.tb (S k) is24 [.v a, .un, .un] st).to (endPo Q) := enter (d := d24) (xs := [a]) rfl rfl
theorem made {fs : List Fc} (hf : ∀ f ∈ fs, Fok 5 f) (hz : fs.length ≤ 1000) : (S (k + 7) 24 [] [.lst (fs.map fD)] st).to fun d st' => d = insF fs ∧ FrA st st' := by
  have z1 : (1000 : Nat) ≤ sizeLine := by decide
  rw [e24]
  unfold is24
  match fs, hf, hz with
  | [], hf, _ =>
    try simp only [w_var, w_int, w_bl, w_non, w_str, w_gl, w_ty, w_bin, w_un, w_cmp, w_chain, w_and, w_or, w_not, w_ife, ev_nil, ev_cons, w_tup, w_lst, w_lstM, w_ix, part_nop, w_sl, w_bi, w_call, w_callS, w_meth, w_op, w_attr, w_app, w_idx, w_dzip, w_lc, w_lcM, w_tru, w_nott, w_andt, w_ort, i_itv, i_rng1, i_rng2, i_enm, b_nil, b_cons, s_exp, s_doc, s_pass, s_brk, s_cont, s_never, s_set, s_asg, g_var, g_sub, g_tup, gs_nil, gs_cons, s_par, s_ret, s_retF, s_retN, s_ite, s_for, for_nil, s_attr, w_prp, w_dun, w_fmt, w_fst, js_nil, js_cons, w_xisi, s_raise0, s_par3, p_add, p_addS, p_addT, p_addL, p_addB, p_sub, p_mul, p_mulL, p_fdiv, p_mod, p_pow, p_neg, p_eqI, p_neI, p_eqS, p_neS, p_eqB, p_lt, p_le, p_gt, p_ge, p_isN, p_isNN, p_isB, p_isNB, p_inT, p_ninT, p_ninK, p_ixL, p_ixT, p_ixK, p_ixG, p_ixR, p_put, p_slL, p_slT, p_lenL, p_lenT, p_lenS, p_intI, p_abs, p_max, p_min, p_divmod, p_tupT, p_tupL, p_tupR, p_all, p_any, p_repr, p_isi, p_app, p_idx, p_itL, p_itT, p_rng1, p_rng2, p_enmT, p_enmL, p_fmtS, p_fmtI, p_dlenI, p_dreprI, p_dboolI, p_dlenL, p_dlenT, p_dlenS, p_dreprL, p_dreprT, p_dreprS, p_dreprN, p_dreprB, p_dreprO, p_dboolN, p_dboolB, p_dboolL, p_strI, p_strS, oto_some, slTo_v, tst_bl, asInt_int, asBl_bl, asLst_l, asRef_r, asL_l, asStr_s, asExn_e, List.set_cons_zero, List.set_cons_succ, List.getElem?_cons_zero, List.getElem?_cons_succ, List.length_cons, List.length_nil, List.nil_append, List.cons_append, List.append_nil, List.map_nil, List.getElem?_set_self, List.length_set, List.set_set, p_dzip, p_putA, asIns_i, tn_non, tn_bl, tn_int, tn_str, tn_tup, tn_lst, tn_dK, tn_ins, asTn_ty, asTn_glo, tru_bl, tru_non, tru_int, tru_lst, tru_tup, truP_bl, truP_non, truP_int, truP_lst, truP_tup, isNon_non, isNon_int, isNon_tup, isNon_lst, isNon_str, isNon_ins, seqD_tup, seqD_lst, insOf_ins, atI_0, atI_1, atI_2, atI_3, atI_4, ixN_0, ixN_1, ixN_2, ixN_3, ixN_4]
    refine ⟨fun _ => ⟨True.intro, facts (fs := []) (fun _ h => by cases h) (by decide)⟩, fun z => by (cases z)⟩
  | [f], hf, _ =>
    try simp only [w_var, w_int, w_bl, w_non, w_str, w_gl, w_ty, w_bin, w_un, w_cmp, w_chain, w_and, w_or, w_not, w_ife, ev_nil, ev_cons, w_tup, w_lst, w_lstM, w_ix, part_nop, w_sl, w_bi, w_call, w_callS, w_meth, w_op, w_attr, w_app, w_idx, w_dzip, w_lc, w_lcM, w_tru, w_nott, w_andt, w_ort, i_itv, i_rng1, i_rng2, i_enm, b_nil, b_cons, s_exp, s_doc, s_pass, s_brk, s_cont, s_never, s_set, s_asg, g_var, g_sub, g_tup, gs_nil, gs_cons, s_par, s_ret, s_retF, s_retN, s_ite, s_for, for_nil, s_attr, w_prp, w_dun, w_fmt, w_fst, js_nil, js_cons, w_xisi, s_raise0, s_par3, p_add, p_addS, p_addT, p_addL, p_addB, p_sub, p_mul, p_mulL, p_fdiv, p_mod, p_pow, p_neg, p_eqI, p_neI, p_eqS, p_neS, p_eqB, p_lt, p_le, p_gt, p_ge, p_isN, p_isNN, p_isB, p_isNB, p_inT, p_ninT, p_ninK, p_ixL, p_ixT, p_ixK, p_ixG, p_ixR, p_put, p_slL, p_slT, p_lenL, p_lenT, p_lenS, p_intI, p_abs, p_max, p_min, p_divmod, p_tupT, p_tupL, p_tupR, p_all, p_any, p_repr, p_isi, p_app, p_idx, p_itL, p_itT, p_rng1, p_rng2, p_enmT, p_enmL, p_fmtS, p_fmtI, p_dlenI, p_dreprI, p_dboolI, p_dlenL, p_dlenT, p_dlenS, p_dreprL, p_dreprT, p_dreprS, p_dreprN, p_dreprB, p_dreprO, p_dboolN, p_dboolB, p_dboolL, p_strI, p_strS, oto_some, slTo_v, tst_bl, asInt_int, asBl_bl, asLst_l, asRef_r, asL_l, asStr_s, asExn_e, List.set_cons_zero, List.set_cons_succ, List.getElem?_cons_zero, List.getElem?_cons_succ, List.length_cons, List.length_nil, List.nil_append, List.cons_append, List.append_nil, List.map_nil, List.map_cons, List.getElem?_set_self, List.length_set, List.set_set, p_dzip, p_putA, asIns_i, tn_non, tn_bl, tn_int, tn_str, tn_tup, tn_lst, tn_dK, tn_ins, asTn_ty, asTn_glo, tru_bl, tru_non, tru_int, tru_lst, tru_tup, truP_bl, truP_non, truP_int, truP_lst, truP_tup, isNon_non, isNon_int, isNon_tup, isNon_lst, isNon_str, isNon_ins, seqD_tup, seqD_lst, insOf_ins, atI_0, atI_1, atI_2, atI_3, atI_4, ixN_0, ixN_1, ixN_2, ixN_3, ixN_4]
    refine ⟨fun z => by (cases z), fun _ => ⟨fun _ => ⟨True.intro, facts (fs := [f]) hf (show 1 ≤ sizeLine by decide)⟩, fun z => by (cases z)⟩⟩
  | [f, g], hf, _ =>
    try simp only [w_var, w_int, w_bl, w_non, w_str, w_gl, w_ty, w_bin, w_un, w_cmp, w_chain, w_and, w_or, w_not, w_ife, ev_nil, ev_cons, w_tup, w_lst, w_lstM, w_ix, part_nop, w_sl, w_bi, w_call, w_callS, w_meth, w_op, w_attr, w_app, w_idx, w_dzip, w_lc, w_lcM, w_tru, w_nott, w_andt, w_ort, i_itv, i_rng1, i_rng2, i_enm, b_nil, b_cons, s_exp, s_doc, s_pass, s_brk, s_cont, s_never, s_set, s_asg, g_var, g_sub, g_tup, gs_nil, gs_cons, s_par, s_ret, s_retF, s_retN, s_ite, s_for, for_nil, s_attr, w_prp, w_dun, w_fmt, w_fst, js_nil, js_cons, w_xisi, s_raise0, s_par3, p_add, p_addS, p_addT, p_addL, p_addB, p_sub, p_mul, p_mulL, p_fdiv, p_mod, p_pow, p_neg, p_eqI, p_neI, p_eqS, p_neS, p_eqB, p_lt, p_le, p_gt, p_ge, p_isN, p_isNN, p_isB, p_isNB, p_inT, p_ninT, p_ninK, p_ixL, p_ixT, p_ixK, p_ixG, p_ixR, p_put, p_slL, p_slT, p_lenL, p_lenT, p_lenS, p_intI, p_abs, p_max, p_min, p_divmod, p_tupT, p_tupL, p_tupR, p_all, p_any, p_repr, p_isi, p_app, p_idx, p_itL, p_itT, p_rng1, p_rng2, p_enmT, p_enmL, p_fmtS, p_fmtI, p_dlenI, p_dreprI, p_dboolI, p_dlenL, p_dlenT, p_dlenS, p_dreprL, p_dreprT, p_dreprS, p_dreprN, p_dreprB, p_dreprO, p_dboolN, p_dboolB, p_dboolL, p_strI, p_strS, oto_some, slTo_v, tst_bl, asInt_int, asBl_bl, asLst_l, asRef_r, asL_l, asStr_s, asExn_e, List.set_cons_zero, List.set_cons_succ, List.getElem?_cons_zero, List.getElem?_cons_succ, List.length_cons, List.length_nil, List.nil_append, List.cons_append, List.append_nil, List.map_nil, List.map_cons, List.getElem?_set_self, List.length_set, List.set_set, p_dzip, p_putA, asIns_i, tn_non, tn_bl, tn_int, tn_str, tn_tup, tn_lst, tn_dK, tn_ins, asTn_ty, asTn_glo, tru_bl, tru_non, tru_int, tru_lst, tru_tup, truP_bl, truP_non, truP_int, truP_lst, truP_tup, isNon_non, isNon_int, isNon_tup, isNon_lst, isNon_str, isNon_ins, seqD_tup, seqD_lst, insOf_ins, atI_0, atI_1, atI_2, atI_3, atI_4, ixN_0, ixN_1, ixN_2, ixN_3, ixN_4]
    refine ⟨fun z => by (cases z), fun _ => ⟨fun z => by (cases z), fun _ => ⟨fun _ => ⟨True.intro, facts (fs := [f, g]) hf (show 2 ≤ sizeLine by decide)⟩, fun z => by (cases z)⟩⟩⟩
  | f :: g :: h :: fs, hf, hz =>
    try simp only [w_var, w_int, w_bl, w_non, w_str, w_gl, w_ty, w_bin, w_un, w_cmp, w_chain, w_and, w_or, w_not, w_ife, ev_nil, ev_cons, w_tup, w_lst, w_lstM, w_ix, part_nop, w_sl, w_bi, w_call, w_callS, w_meth, w_op, w_attr, w_app, w_idx, w_dzip, w_lc, w_lcM, w_tru, w_nott, w_andt, w_ort, i_itv, i_rng1, i_rng2, i_enm, b_nil, b_cons, s_exp, s_doc, s_pass, s_brk, s_cont, s_never, s_set, s_asg, g_var, g_sub, g_tup, gs_nil, gs_cons, s_par, s_ret, s_retF, s_retN, s_ite, s_for, for_nil, s_attr, w_prp, w_dun, w_fmt, w_fst, js_nil, js_cons, w_xisi, s_raise0, s_par3, p_add, p_addS, p_addT, p_addL, p_addB, p_sub, p_mul, p_mulL, p_fdiv, p_mod, p_pow, p_neg, p_eqI, p_neI, p_eqS, p_neS, p_eqB, p_lt, p_le, p_gt, p_ge, p_isN, p_isNN, p_isB, p_isNB, p_inT, p_ninT, p_ninK, p_ixL, p_ixT, p_ixK, p_ixG, p_ixR, p_put, p_slL, p_slT, p_lenL, p_lenT, p_lenS, p_intI, p_abs, p_max, p_min, p_divmod, p_tupT, p_tupL, p_tupR, p_all, p_any, p_repr, p_isi, p_app, p_idx, p_itL, p_itT, p_rng1, p_rng2, p_enmT, p_enmL, p_fmtS, p_fmtI, p_dlenI, p_dreprI, p_dboolI, p_dlenL, p_dlenT, p_dlenS, p_dreprL, p_dreprT, p_dreprS, p_dreprN, p_dreprB, p_dreprO, p_dboolN, p_dboolB, p_dboolL, p_strI, p_strS, oto_some, slTo_v, tst_bl, asInt_int, asBl_bl, asLst_l, asRef_r, asL_l, asStr_s, asExn_e, List.set_cons_zero, List.set_cons_succ, List.getElem?_cons_zero, List.getElem?_cons_succ, List.length_cons, List.length_nil, List.nil_append, List.cons_append, List.append_nil, List.map_nil, List.map_cons, List.getElem?_set_self, List.length_set, List.set_set, p_dzip, p_putA, asIns_i, tn_non, tn_bl, tn_int, tn_str, tn_tup, tn_lst, tn_dK, tn_ins, asTn_ty, asTn_glo, tru_bl, tru_non, tru_int, tru_lst, tru_tup, truP_bl, truP_non, truP_int, truP_lst, truP_tup, isNon_non, isNon_int, isNon_tup, isNon_lst, isNon_str, isNon_ins, seqD_tup, seqD_lst, insOf_ins, atI_0, atI_1, atI_2, atI_3, atI_4, ixN_0, ixN_1, ixN_2, ixN_3, ixN_4]
    have ok3 : ∀ x ∈ [f, g, h], Fok 5 x := fun x hx => hf x (by simp at hx ⊢; rcases hx with e | e | e <;> simp [e])
    refine ⟨fun z => absurd (of_decide_eq_true z) (by omega), fun _ => ⟨fun z => absurd (of_decide_eq_true z) (by omega), fun _ => ⟨fun z => absurd (of_decide_eq_true z) (by omega), fun _ => ⟨True.intro, R.to_mono (facts (fs := [f, g, h]) ok3 (show 3 ≤ sizeLine by decide)) ?_⟩⟩⟩⟩
    rintro _ st1 ⟨rfl, f1⟩
    rw [part_of _ _ _ _ _ (by intro z; cases z)]
    try simp only [w_var, w_int, w_bl, w_non, w_str, w_gl, w_ty, w_bin, w_un, w_cmp, w_chain, w_and, w_or, w_not, w_ife, ev_nil, ev_cons, w_tup, w_lst, w_lstM, w_ix, part_nop, w_sl, w_bi, w_call, w_callS, w_meth, w_op, w_attr, w_app, w_idx, w_dzip, w_lc, w_lcM, w_tru, w_nott, w_andt, w_ort, i_itv, i_rng1, i_rng2, i_enm, b_nil, b_cons, s_exp, s_doc, s_pass, s_brk, s_cont, s_never, s_set, s_asg, g_var, g_sub, g_tup, gs_nil, gs_cons, s_par, s_ret, s_retF, s_retN, s_ite, s_for, for_nil, s_attr, w_prp, w_dun, w_fmt, w_fst, js_nil, js_cons, w_xisi, s_raise0, s_par3, p_add, p_addS, p_addT, p_addL, p_addB, p_sub, p_mul, p_mulL, p_fdiv, p_mod, p_pow, p_neg, p_eqI, p_neI, p_eqS, p_neS, p_eqB, p_lt, p_le, p_gt, p_ge, p_isN, p_isNN, p_isB, p_isNB, p_inT, p_ninT, p_ninK, p_ixL, p_ixT, p_ixK, p_ixG, p_ixR, p_put, p_slL, p_slT, p_lenL, p_lenT, p_lenS, p_intI, p_abs, p_max, p_min, p_divmod, p_tupT, p_tupL, p_tupR, p_all, p_any, p_repr, p_isi, p_app, p_idx, p_itL, p_itT, p_rng1, p_rng2, p_enmT, p_enmL, p_fmtS, p_fmtI, p_dlenI, p_dreprI, p_dboolI, p_dlenL, p_dlenT, p_dlenS, p_dreprL, p_dreprT, p_dreprS, p_dreprN, p_dreprB, p_dreprO, p_dboolN, p_dboolB, p_dboolL, p_strI, p_strS, oto_some, slTo_v, tst_bl, asInt_int, asBl_bl, asLst_l, asRef_r, asL_l, asStr_s, asExn_e, List.set_cons_zero, List.set_cons_succ, List.getElem?_cons_zero, List.getElem?_cons_succ, List.length_cons, List.length_nil, List.nil_append, List.cons_append, List.append_nil, List.getElem?_set_self, List.length_set, List.set_set, p_dzip, p_putA, asIns_i, tn_non, tn_bl, tn_int, tn_str, tn_tup, tn_lst, tn_dK, tn_ins, asTn_ty, asTn_glo, tru_bl, tru_non, tru_int, tru_lst, tru_tup, truP_bl, truP_non, truP_int, truP_lst, truP_tup, isNon_non, isNon_int, isNon_tup, isNon_lst, isNon_str, isNon_ins, seqD_tup, seqD_lst, insOf_ins, atI_0, atI_1, atI_2, atI_3, atI_4, ixN_0, ixN_1, ixN_2, ixN_3, ixN_4]
    rw [show DV.cutD (fD f :: fD g :: fD h :: fs.map fD) (some 3) none = fs.map fD by
      unfold DV.cutD
      rw [HT.sIx_none, show HT.sIx (fD f :: fD g :: fD h :: fs.map fD).length 0 (some 3) = 3 by
        rw [show (3 : Int) = ((3 : Nat) : Int) from rfl, HT.sIx_nat]
        simp]
      simp only [List.length_cons, List.drop_succ_cons, List.drop_zero]
      exact List.take_of_length_le (by simp)]
    refine for_inv (fun ds ρ st' => ∃ (gs hs : List Fc) (x : Sl), gs ++ hs = f :: g :: h :: fs ∧ ds = hs.map fD ∧ ρ = [.v (.lst (fD f :: fD g :: fD h :: fs.map fD)), .v (insF gs), x] ∧ FrA st st') ?_ ?_ _ _ _ ⟨[f, g, h], fs, _, rfl, rfl, rfl, f1⟩
    · rintro d ds ρ st' ⟨gs, hs, x, e, e2, rfl, fr⟩
      cases hs with
      | nil => cases e2
      | cons u hs =>
        simp only [List.map_cons, List.cons.injEq] at e2
        obtain ⟨rfl, rfl⟩ := e2
        have ok : ∀ f ∈ [u], Fok 5 f := fun w hm => by
          have : w = u := by simpa using hm
          subst this
          exact hf w (by rw [← e]; simp)
        try simp only [w_var, w_int, w_bl, w_non, w_str, w_gl, w_ty, w_bin, w_un, w_cmp, w_chain, w_and, w_or, w_not, w_ife, ev_nil, ev_cons, w_tup, w_lst, w_lstM, w_ix, part_nop, w_sl, w_bi, w_call, w_callS, w_meth, w_op, w_attr, w_app, w_idx, w_dzip, w_lc, w_lcM, w_tru, w_nott, w_andt, w_ort, i_itv, i_rng1, i_rng2, i_enm, b_nil, b_cons, s_exp, s_doc, s_pass, s_brk, s_cont, s_never, s_set, s_asg, g_var, g_sub, g_tup, gs_nil, gs_cons, s_par, s_ret, s_retF, s_retN, s_ite, s_for, for_nil, s_attr, w_prp, w_dun, w_fmt, w_fst, js_nil, js_cons, w_xisi, s_raise0, s_par3, p_add, p_addS, p_addT, p_addL, p_addB, p_sub, p_mul, p_mulL, p_fdiv, p_mod, p_pow, p_neg, p_eqI, p_neI, p_eqS, p_neS, p_eqB, p_lt, p_le, p_gt, p_ge, p_isN, p_isNN, p_isB, p_isNB, p_inT, p_ninT, p_ninK, p_ixL, p_ixT, p_ixK, p_ixG, p_ixR, p_put, p_slL, p_slT, p_lenL, p_lenT, p_lenS, p_intI, p_abs, p_max, p_min, p_divmod, p_tupT, p_tupL, p_tupR, p_all, p_any, p_repr, p_isi, p_app, p_idx, p_itL, p_itT, p_rng1, p_rng2, p_enmT, p_enmL, p_fmtS, p_fmtI, p_dlenI, p_dreprI, p_dboolI, p_dlenL, p_dlenT, p_dlenS, p_dreprL, p_dreprT, p_dreprS, p_dreprN, p_dreprB, p_dreprO, p_dboolN, p_dboolB, p_dboolL, p_strI, p_strS, oto_some, slTo_v, tst_bl, asInt_int, asBl_bl, asLst_l, asRef_r, asL_l, asStr_s, asExn_e, List.set_cons_zero, List.set_cons_succ, List.getElem?_cons_zero, List.getElem?_cons_succ, List.length_cons, List.length_nil, List.nil_append, List.cons_append, List.append_nil, List.getElem?_set_self, List.length_set, List.set_set, p_dzip, p_putA, asIns_i, tn_non, tn_bl, tn_int, tn_str, tn_tup, tn_lst, tn_dK, tn_ins, asTn_ty, asTn_glo, tru_bl, tru_non, tru_int, tru_lst, tru_tup, truP_bl, truP_non, truP_int, truP_lst, truP_tup, isNon_non, isNon_int, isNon_tup, isNon_lst, isNon_str, isNon_ins, seqD_tup, seqD_lst, insOf_ins, atI_0, atI_1, atI_2, atI_3, atI_4, ixN_0, ixN_1, ixN_2, ixN_3, ixN_4]
        refine ⟨True.intro, R.to_mono (facts (fs := [u]) ok (show 1 ≤ sizeLine by decide)) ?_⟩
        rintro _ st2 ⟨rfl, f2⟩
        rw [op_f]
        try simp only [w_var, w_int, w_bl, w_non, w_str, w_gl, w_ty, w_bin, w_un, w_cmp, w_chain, w_and, w_or, w_not, w_ife, ev_nil, ev_cons, w_tup, w_lst, w_lstM, w_ix, part_nop, w_sl, w_bi, w_call, w_callS, w_meth, w_op, w_attr, w_app, w_idx, w_dzip, w_lc, w_lcM, w_tru, w_nott, w_andt, w_ort, i_itv, i_rng1, i_rng2, i_enm, b_nil, b_cons, s_exp, s_doc, s_pass, s_brk, s_cont, s_never, s_set, s_asg, g_var, g_sub, g_tup, gs_nil, gs_cons, s_par, s_ret, s_retF, s_retN, s_ite, s_for, for_nil, s_attr, w_prp, w_dun, w_fmt, w_fst, js_nil, js_cons, w_xisi, s_raise0, s_par3, p_add, p_addS, p_addT, p_addL, p_addB, p_sub, p_mul, p_mulL, p_fdiv, p_mod, p_pow, p_neg, p_eqI, p_neI, p_eqS, p_neS, p_eqB, p_lt, p_le, p_gt, p_ge, p_isN, p_isNN, p_isB, p_isNB, p_inT, p_ninT, p_ninK, p_ixL, p_ixT, p_ixK, p_ixG, p_ixR, p_put, p_slL, p_slT, p_lenL, p_lenT, p_lenS, p_intI, p_abs, p_max, p_min, p_divmod, p_tupT, p_tupL, p_tupR, p_all, p_any, p_repr, p_isi, p_app, p_idx, p_itL, p_itT, p_rng1, p_rng2, p_enmT, p_enmL, p_fmtS, p_fmtI, p_dlenI, p_dreprI, p_dboolI, p_dlenL, p_dlenT, p_dlenS, p_dreprL, p_dreprT, p_dreprS, p_dreprN, p_dreprB, p_dreprO, p_dboolN, p_dboolB, p_dboolL, p_strI, p_strS, oto_some, slTo_v, tst_bl, asInt_int, asBl_bl, asLst_l, asRef_r, asL_l, asStr_s, asExn_e, List.set_cons_zero, List.set_cons_succ, List.getElem?_cons_zero, List.getElem?_cons_succ, List.length_cons, List.length_nil, List.nil_append, List.cons_append, List.append_nil, List.getElem?_set_self, List.length_set, List.set_set, p_dzip, p_putA, asIns_i, tn_non, tn_bl, tn_int, tn_str, tn_tup, tn_lst, tn_dK, tn_ins, asTn_ty, asTn_glo, tru_bl, tru_non, tru_int, tru_lst, tru_tup, truP_bl, truP_non, truP_int, truP_lst, truP_tup, isNon_non, isNon_int, isNon_tup, isNon_lst, isNon_str, isNon_ins, seqD_tup, seqD_lst, insOf_ins, atI_0, atI_1, atI_2, atI_3, atI_4, ixN_0, ixN_1, ixN_2, ixN_3, ixN_4]
        have lz : gs.length + (hs.length + 1) = (f :: g :: h :: fs).length := by rw [← e]; simp
        refine R.to_mono (both (fs := gs) (gs := [u]) (fun w hm => hf w (by rw [← e]; simp [hm])) ok (by simp only [List.length_cons, List.length_nil] at lz hz ⊢; omega)) ?_
        rintro _ st3 ⟨rfl, f3⟩
        exact ⟨gs ++ [u], hs, _, by rw [← e]; simp, rfl, rfl, fr.trans (f2.trans f3)⟩
    · rintro ρ st' ⟨gs, hs, x, e, e2, rfl, fr⟩
      cases hs with
      | nil =>
        try simp only [w_var, w_int, w_bl, w_non, w_str, w_gl, w_ty, w_bin, w_un, w_cmp, w_chain, w_and, w_or, w_not, w_ife, ev_nil, ev_cons, w_tup, w_lst, w_lstM, w_ix, part_nop, w_sl, w_bi, w_call, w_callS, w_meth, w_op, w_attr, w_app, w_idx, w_dzip, w_lc, w_lcM, w_tru, w_nott, w_andt, w_ort, i_itv, i_rng1, i_rng2, i_enm, b_nil, b_cons, s_exp, s_doc, s_pass, s_brk, s_cont, s_never, s_set, s_asg, g_var, g_sub, g_tup, gs_nil, gs_cons, s_par, s_ret, s_retF, s_retN, s_ite, s_for, for_nil, s_attr, w_prp, w_dun, w_fmt, w_fst, js_nil, js_cons, w_xisi, s_raise0, s_par3, p_add, p_addS, p_addT, p_addL, p_addB, p_sub, p_mul, p_mulL, p_fdiv, p_mod, p_pow, p_neg, p_eqI, p_neI, p_eqS, p_neS, p_eqB, p_lt, p_le, p_gt, p_ge, p_isN, p_isNN, p_isB, p_isNB, p_inT, p_ninT, p_ninK, p_ixL, p_ixT, p_ixK, p_ixG, p_ixR, p_put, p_slL, p_slT, p_lenL, p_lenT, p_lenS, p_intI, p_abs, p_max, p_min, p_divmod, p_tupT, p_tupL, p_tupR, p_all, p_any, p_repr, p_isi, p_app, p_idx, p_itL, p_itT, p_rng1, p_rng2, p_enmT, p_enmL, p_fmtS, p_fmtI, p_dlenI, p_dreprI, p_dboolI, p_dlenL, p_dlenT, p_dlenS, p_dreprL, p_dreprT, p_dreprS, p_dreprN, p_dreprB, p_dreprO, p_dboolN, p_dboolB, p_dboolL, p_strI, p_strS, oto_some, slTo_v, tst_bl, asInt_int, asBl_bl, asLst_l, asRef_r, asL_l, asStr_s, asExn_e, List.set_cons_zero, List.set_cons_succ, List.getElem?_cons_zero, List.getElem?_cons_succ, List.length_cons, List.length_nil, List.nil_append, List.cons_append, List.append_nil, List.getElem?_set_self, List.length_set, List.set_set, p_dzip, p_putA, asIns_i, tn_non, tn_bl, tn_int, tn_str, tn_tup, tn_lst, tn_dK, tn_ins, asTn_ty, asTn_glo, tru_bl, tru_non, tru_int, tru_lst, tru_tup, truP_bl, truP_non, truP_int, truP_lst, truP_tup, isNon_non, isNon_int, isNon_tup, isNon_lst, isNon_str, isNon_ins, seqD_tup, seqD_lst, insOf_ins, atI_0, atI_1, atI_2, atI_3, atI_4, ixN_0, ixN_1, ixN_2, ixN_3, ixN_4]
        have e : gs = f :: g :: h :: fs := by simpa using e
        rw [← e]
        exact ⟨rfl, fr⟩
      | cons u hs => cases e2
end
end K22

namespace K22
open PySem PySem.Spec PyProof.Rows L2 DV
section
variable {k : Nat} {st : Store} {Q : DV.D → Store → Prop} {a b c d : DV.D}
theorem e23 : (S (k + 1) 23 [] [a, b, c] st).to Q = (denB lw.tb (S k) is23 [.v a, .v b, .v c, .un, .un, .un, .un, .un, .un, .un, .un, .un] st).to (endPo Q) := enter (d := d23) (xs := [a, b, c]) rfl rfl
theorem rng0 (n : Nat) : rng 0 n = (List.range n).map fun i : Nat => DV.D.int i := by
  unfold rng
  refine List.map_congr_left fun i _ => ?_
  rw [Int.zero_add]
/-- torn facts: a way round that is too low -/
def Torn (cs : List Fc) : Prop := (∀ f ∈ cs, Fok 5 f) ∧ ∃ x w n, x < 5 ∧ SP.Walk cs x x w n ∧ w < 0
/-- the points of the circle, its facts -/
def cv (s p : Int) (i : Nat) : Nat := ((s + (i : Int) * p) % 5).toNat
def cf (ws : List Int) (s p b : Int) (M i : Nat) : Fc := (cv s p i, cv s p ((i + 1) % M), ws.getD (cv s p i) 0 - ws.getD (cv s p ((i + 1) % M)) 0 - (if i + 1 = M then b else 0))
def cfs (ws : List Int) (s p b : Int) (M : Nat) : List Fc := (List.range M).map (cf ws s p b M)
theorem cv_lt (s p : Int) (i : Nat) : cv s p i < 5 := by
  unfold cv
  omega
theorem cfs_ok {ws : List Int} {s p b : Int} {M : Nat} (s0 : 0 ≤ s) (s1 : s < 5) (p0 : 1 ≤ p) (p1 : p ≤ 4) (m0 : 2 ≤ M) (m1 : M ≤ 5) : ∀ f ∈ cfs ws s p b M, Fok 5 f := fun f hf => by
  have hM : M = 2 ∨ M = 3 ∨ M = 4 ∨ M = 5 := by omega
  obtain ⟨i, hi, e⟩ := List.mem_map.mp hf
  subst e
  have hi := List.mem_range.mp hi
  refine ⟨cv_lt .., cv_lt .., ?_⟩
  show cv s p i ≠ cv s p ((i + 1) % M)
  have hp : p = 1 ∨ p = 2 ∨ p = 3 ∨ p = 4 := by omega
  unfold cv
  rcases hp with rfl | rfl | rfl | rfl <;> rcases hM with rfl | rfl | rfl | rfl <;> omega
theorem cfs_hold {ws : List Int} {s p : Int} {M : Nat} : ∀ f ∈ cfs ws s p 0 M, Holds ws f := fun f hf => by
  obtain ⟨i, hi, e⟩ := List.mem_map.mp hf
  subst e
  unfold Holds hid cf
  dsimp only
  split <;> omega
theorem cfs_split (ws : List Int) (s p b : Int) (m : Nat) : cfs ws s p b (m + 1) = (List.range m).map (cf ws s p 0 (m + 1)) ++ [cf ws s p b (m + 1) m] := by
  unfold cfs
  rw [List.range_succ, List.map_append]
  congr 1
  refine List.map_congr_left fun i hi => ?_
  have := List.mem_range.mp hi
  unfold cf
  rw [if_neg (by omega), if_neg (by omega)]
theorem cfs_torn {ws : List Int} {s p b : Int} {M : Nat} (s0 : 0 ≤ s) (s1 : s < 5) (p0 : 1 ≤ p) (p1 : p ≤ 4) (m0 : 2 ≤ M) (m1 : M ≤ 5) (hb : 0 < b) : Torn (cfs ws s p b M) := by
  have hM : M = 2 ∨ M = 3 ∨ M = 4 ∨ M = 5 := by omega
  refine ⟨fun f hf => ?_, cv s p 0, -b, M, cv_lt .., ?_, by omega⟩
  · obtain ⟨i, hi, e⟩ := List.mem_map.mp hf
    subst e
    have hi := List.mem_range.mp hi
    refine ⟨cv_lt .., cv_lt .., ?_⟩
    show cv s p i ≠ cv s p ((i + 1) % M)
    have hp : p = 1 ∨ p = 2 ∨ p = 3 ∨ p = 4 := by omega
    unfold cv
    rcases hp with rfl | rfl | rfl | rfl <;> rcases hM with rfl | rfl | rfl | rfl <;> omega
  · have mem : ∀ i, i < M → cf ws s p b M i ∈ cfs ws s p b M := fun i hi => List.mem_map.mpr ⟨i, List.mem_range.mpr hi, rfl⟩
    generalize cfs ws s p b M = cs at mem
    rcases hM with rfl | rfl | rfl | rfl
    · have w := SP.Walk.cons (mem 0 (by decide)) (SP.Walk.cons (mem 1 (by decide)) (.nil _))
      have e : ∀ q, SP.Walk cs (cv s p 0) (cv s p 0) q 2 → q = -b → SP.Walk cs (cv s p 0) (cv s p 0) (-b) 2 := fun q h e => e ▸ h
      refine e _ w ?_
      simp only [cf]
      simp
      omega
    · have w := SP.Walk.cons (mem 0 (by decide)) (SP.Walk.cons (mem 1 (by decide)) (SP.Walk.cons (mem 2 (by decide)) (.nil _)))
      have e : ∀ q, SP.Walk cs (cv s p 0) (cv s p 0) q 3 → q = -b → SP.Walk cs (cv s p 0) (cv s p 0) (-b) 3 := fun q h e => e ▸ h
      refine e _ w ?_
      simp only [cf]
      simp
      omega
    · have w := SP.Walk.cons (mem 0 (by decide)) (SP.Walk.cons (mem 1 (by decide)) (SP.Walk.cons (mem 2 (by decide)) (SP.Walk.cons (mem 3 (by decide)) (.nil _))))
      have e : ∀ q, SP.Walk cs (cv s p 0) (cv s p 0) q 4 → q = -b → SP.Walk cs (cv s p 0) (cv s p 0) (-b) 4 := fun q h e => e ▸ h
      refine e _ w ?_
      simp only [cf]
      simp
      omega
    · have w := SP.Walk.cons (mem 0 (by decide)) (SP.Walk.cons (mem 1 (by decide)) (SP.Walk.cons (mem 2 (by decide)) (SP.Walk.cons (mem 3 (by decide)) (SP.Walk.cons (mem 4 (by decide)) (.nil _)))))
      have e : ∀ q, SP.Walk cs (cv s p 0) (cv s p 0) q 5 → q = -b → SP.Walk cs (cv s p 0) (cv s p 0) (-b) 5 := fun q h e => e ▸ h
      refine e _ w ?_
      simp only [cf]
      simp
      omega
theorem circleX {l : Nat} {n by' : Int} {ws : List Int} (h : Pool n st l) (hn : n ≤ 2 ^ 50) (h5 : ws.length = 5) : (S (k + 3) 23 [] [.ref l, .lst (ws.map .int), .int by'] st).to fun d st' => (∃ (s P : Int) (M : Nat), d = .lst ((cfs ws s P by' M).map fD) ∧ (0 ≤ s ∧ s < 5) ∧ (1 ≤ P ∧ P ≤ 4) ∧ 2 ≤ M ∧ M ≤ 5) ∧ Pool (n + 3) st' l ∧ FrS l st st' := by
  rw [e23]
  unfold is23
  try simp only [w_var, w_int, w_bl, w_non, w_str, w_gl, w_ty, w_bin, w_un, w_cmp, w_chain, w_and, w_or, w_not, w_ife, ev_nil, ev_cons, w_tup, w_lst, w_lstM, w_ix, part_nop, w_sl, w_bi, w_call, w_callS, w_meth, w_op, w_attr, w_app, w_idx, w_dzip, w_lc, w_lcM, w_tru, w_nott, w_andt, w_ort, i_itv, i_rng1, i_rng2, i_enm, b_nil, b_cons, s_exp, s_doc, s_pass, s_brk, s_cont, s_never, s_set, s_asg, g_var, g_sub, g_tup, gs_nil, gs_cons, s_par, s_ret, s_retF, s_retN, s_ite, s_for, for_nil, s_attr, w_prp, w_dun, w_fmt, w_fst, js_nil, js_cons, w_xisi, s_raise0, s_par3, p_add, p_addS, p_addT, p_addL, p_addB, p_sub, p_mul, p_mulL, p_fdiv, p_mod, p_pow, p_neg, p_eqI, p_neI, p_eqS, p_neS, p_eqB, p_lt, p_le, p_gt, p_ge, p_isN, p_isNN, p_isB, p_isNB, p_inT, p_ninT, p_ninK, p_ixL, p_ixT, p_ixK, p_ixG, p_ixR, p_put, p_slL, p_slT, p_lenL, p_lenT, p_lenS, p_intI, p_abs, p_max, p_min, p_divmod, p_tupT, p_tupL, p_tupR, p_all, p_any, p_repr, p_isi, p_app, p_idx, p_itL, p_itT, p_rng1, p_rng2, p_enmT, p_enmL, p_fmtS, p_fmtI, p_dlenI, p_dreprI, p_dboolI, p_dlenL, p_dlenT, p_dlenS, p_dreprL, p_dreprT, p_dreprS, p_dreprN, p_dreprB, p_dreprO, p_dboolN, p_dboolB, p_dboolL, p_strI, p_strS, oto_some, slTo_v, tst_bl, asInt_int, asBl_bl, asLst_l, asRef_r, asL_l, asStr_s, asExn_e, List.set_cons_zero, List.set_cons_succ, List.getElem?_cons_zero, List.getElem?_cons_succ, List.length_cons, List.length_nil, List.nil_append, List.cons_append, List.append_nil, List.getElem?_set_self, List.length_set, List.set_set, p_dzip, p_putA, asIns_i, tn_non, tn_bl, tn_int, tn_str, tn_tup, tn_lst, tn_dK, tn_ins, asTn_ty, asTn_glo, tru_bl, tru_non, tru_int, tru_lst, tru_tup, truP_bl, truP_non, truP_int, truP_lst, truP_tup, isNon_non, isNon_int, isNon_tup, isNon_lst, isNon_str, isNon_ins, seqD_tup, seqD_lst, insOf_ins, atI_0, atI_1, atI_2, atI_3, atI_4, ixN_0, ixN_1, ixN_2, ixN_3, ixN_4]
  refine ⟨True.intro, R.to_mono (draw h (by omega) (by omega) (by omega)) ?_⟩
  rintro _ st1 ⟨⟨s, rfl, s0, s1⟩, h1, f1⟩
  try simp only [w_var, w_int, w_bl, w_non, w_str, w_gl, w_ty, w_bin, w_un, w_cmp, w_chain, w_and, w_or, w_not, w_ife, ev_nil, ev_cons, w_tup, w_lst, w_lstM, w_ix, part_nop, w_sl, w_bi, w_call, w_callS, w_meth, w_op, w_attr, w_app, w_idx, w_dzip, w_lc, w_lcM, w_tru, w_nott, w_andt, w_ort, i_itv, i_rng1, i_rng2, i_enm, b_nil, b_cons, s_exp, s_doc, s_pass, s_brk, s_cont, s_never, s_set, s_asg, g_var, g_sub, g_tup, gs_nil, gs_cons, s_par, s_ret, s_retF, s_retN, s_ite, s_for, for_nil, s_attr, w_prp, w_dun, w_fmt, w_fst, js_nil, js_cons, w_xisi, s_raise0, s_par3, p_add, p_addS, p_addT, p_addL, p_addB, p_sub, p_mul, p_mulL, p_fdiv, p_mod, p_pow, p_neg, p_eqI, p_neI, p_eqS, p_neS, p_eqB, p_lt, p_le, p_gt, p_ge, p_isN, p_isNN, p_isB, p_isNB, p_inT, p_ninT, p_ninK, p_ixL, p_ixT, p_ixK, p_ixG, p_ixR, p_put, p_slL, p_slT, p_lenL, p_lenT, p_lenS, p_intI, p_abs, p_max, p_min, p_divmod, p_tupT, p_tupL, p_tupR, p_all, p_any, p_repr, p_isi, p_app, p_idx, p_itL, p_itT, p_rng1, p_rng2, p_enmT, p_enmL, p_fmtS, p_fmtI, p_dlenI, p_dreprI, p_dboolI, p_dlenL, p_dlenT, p_dlenS, p_dreprL, p_dreprT, p_dreprS, p_dreprN, p_dreprB, p_dreprO, p_dboolN, p_dboolB, p_dboolL, p_strI, p_strS, oto_some, slTo_v, tst_bl, asInt_int, asBl_bl, asLst_l, asRef_r, asL_l, asStr_s, asExn_e, List.set_cons_zero, List.set_cons_succ, List.getElem?_cons_zero, List.getElem?_cons_succ, List.length_cons, List.length_nil, List.nil_append, List.cons_append, List.append_nil, List.getElem?_set_self, List.length_set, List.set_set, p_dzip, p_putA, asIns_i, tn_non, tn_bl, tn_int, tn_str, tn_tup, tn_lst, tn_dK, tn_ins, asTn_ty, asTn_glo, tru_bl, tru_non, tru_int, tru_lst, tru_tup, truP_bl, truP_non, truP_int, truP_lst, truP_tup, isNon_non, isNon_int, isNon_tup, isNon_lst, isNon_str, isNon_ins, seqD_tup, seqD_lst, insOf_ins, atI_0, atI_1, atI_2, atI_3, atI_4, ixN_0, ixN_1, ixN_2, ixN_3, ixN_4]
  refine ⟨True.intro, R.to_mono (draw h1 (by omega) (by omega) (by omega)) ?_⟩
  rintro _ st2 ⟨⟨p, rfl, p0, p1⟩, h2, f2⟩
  try simp only [w_var, w_int, w_bl, w_non, w_str, w_gl, w_ty, w_bin, w_un, w_cmp, w_chain, w_and, w_or, w_not, w_ife, ev_nil, ev_cons, w_tup, w_lst, w_lstM, w_ix, part_nop, w_sl, w_bi, w_call, w_callS, w_meth, w_op, w_attr, w_app, w_idx, w_dzip, w_lc, w_lcM, w_tru, w_nott, w_andt, w_ort, i_itv, i_rng1, i_rng2, i_enm, b_nil, b_cons, s_exp, s_doc, s_pass, s_brk, s_cont, s_never, s_set, s_asg, g_var, g_sub, g_tup, gs_nil, gs_cons, s_par, s_ret, s_retF, s_retN, s_ite, s_for, for_nil, s_attr, w_prp, w_dun, w_fmt, w_fst, js_nil, js_cons, w_xisi, s_raise0, s_par3, p_add, p_addS, p_addT, p_addL, p_addB, p_sub, p_mul, p_mulL, p_fdiv, p_mod, p_pow, p_neg, p_eqI, p_neI, p_eqS, p_neS, p_eqB, p_lt, p_le, p_gt, p_ge, p_isN, p_isNN, p_isB, p_isNB, p_inT, p_ninT, p_ninK, p_ixL, p_ixT, p_ixK, p_ixG, p_ixR, p_put, p_slL, p_slT, p_lenL, p_lenT, p_lenS, p_intI, p_abs, p_max, p_min, p_divmod, p_tupT, p_tupL, p_tupR, p_all, p_any, p_repr, p_isi, p_app, p_idx, p_itL, p_itT, p_rng1, p_rng2, p_enmT, p_enmL, p_fmtS, p_fmtI, p_dlenI, p_dreprI, p_dboolI, p_dlenL, p_dlenT, p_dlenS, p_dreprL, p_dreprT, p_dreprS, p_dreprN, p_dreprB, p_dreprO, p_dboolN, p_dboolB, p_dboolL, p_strI, p_strS, oto_some, slTo_v, tst_bl, asInt_int, asBl_bl, asLst_l, asRef_r, asL_l, asStr_s, asExn_e, List.set_cons_zero, List.set_cons_succ, List.getElem?_cons_zero, List.getElem?_cons_succ, List.length_cons, List.length_nil, List.nil_append, List.cons_append, List.append_nil, List.getElem?_set_self, List.length_set, List.set_set, p_dzip, p_putA, asIns_i, tn_non, tn_bl, tn_int, tn_str, tn_tup, tn_lst, tn_dK, tn_ins, asTn_ty, asTn_glo, tru_bl, tru_non, tru_int, tru_lst, tru_tup, truP_bl, truP_non, truP_int, truP_lst, truP_tup, isNon_non, isNon_int, isNon_tup, isNon_lst, isNon_str, isNon_ins, seqD_tup, seqD_lst, insOf_ins, atI_0, atI_1, atI_2, atI_3, atI_4, ixN_0, ixN_1, ixN_2, ixN_3, ixN_4]
  refine ⟨True.intro, R.to_mono (draw h2 (by omega) (by omega) (by omega)) ?_⟩
  rintro _ st3 ⟨⟨m, rfl, m0, m1⟩, h3, f3⟩
  try simp only [w_var, w_int, w_bl, w_non, w_str, w_gl, w_ty, w_bin, w_un, w_cmp, w_chain, w_and, w_or, w_not, w_ife, ev_nil, ev_cons, w_tup, w_lst, w_lstM, w_ix, part_nop, w_sl, w_bi, w_call, w_callS, w_meth, w_op, w_attr, w_app, w_idx, w_dzip, w_lc, w_lcM, w_tru, w_nott, w_andt, w_ort, i_itv, i_rng1, i_rng2, i_enm, b_nil, b_cons, s_exp, s_doc, s_pass, s_brk, s_cont, s_never, s_set, s_asg, g_var, g_sub, g_tup, gs_nil, gs_cons, s_par, s_ret, s_retF, s_retN, s_ite, s_for, for_nil, s_attr, w_prp, w_dun, w_fmt, w_fst, js_nil, js_cons, w_xisi, s_raise0, s_par3, p_add, p_addS, p_addT, p_addL, p_addB, p_sub, p_mul, p_mulL, p_fdiv, p_mod, p_pow, p_neg, p_eqI, p_neI, p_eqS, p_neS, p_eqB, p_lt, p_le, p_gt, p_ge, p_isN, p_isNN, p_isB, p_isNB, p_inT, p_ninT, p_ninK, p_ixL, p_ixT, p_ixK, p_ixG, p_ixR, p_put, p_slL, p_slT, p_lenL, p_lenT, p_lenS, p_intI, p_abs, p_max, p_min, p_divmod, p_tupT, p_tupL, p_tupR, p_all, p_any, p_repr, p_isi, p_app, p_idx, p_itL, p_itT, p_rng1, p_rng2, p_enmT, p_enmL, p_fmtS, p_fmtI, p_dlenI, p_dreprI, p_dboolI, p_dlenL, p_dlenT, p_dlenS, p_dreprL, p_dreprT, p_dreprS, p_dreprN, p_dreprB, p_dreprO, p_dboolN, p_dboolB, p_dboolL, p_strI, p_strS, oto_some, slTo_v, tst_bl, asInt_int, asBl_bl, asLst_l, asRef_r, asL_l, asStr_s, asExn_e, List.set_cons_zero, List.set_cons_succ, List.getElem?_cons_zero, List.getElem?_cons_succ, List.length_cons, List.length_nil, List.nil_append, List.cons_append, List.append_nil, List.getElem?_set_self, List.length_set, List.set_set, p_dzip, p_putA, asIns_i, tn_non, tn_bl, tn_int, tn_str, tn_tup, tn_lst, tn_dK, tn_ins, asTn_ty, asTn_glo, tru_bl, tru_non, tru_int, tru_lst, tru_tup, truP_bl, truP_non, truP_int, truP_lst, truP_tup, isNon_non, isNon_int, isNon_tup, isNon_lst, isNon_str, isNon_ins, seqD_tup, seqD_lst, insOf_ins, atI_0, atI_1, atI_2, atI_3, atI_4, ixN_0, ixN_1, ixN_2, ixN_3, ixN_4]
  obtain ⟨P, hP, P0, P1⟩ : ∃ P, P = 1 + p ∧ 1 ≤ P ∧ P ≤ 4 := ⟨_, rfl, by omega, by omega⟩
  obtain ⟨M, hM, M0, M1⟩ : ∃ M : Nat, (2 + m) = M ∧ 2 ≤ M ∧ M ≤ 5 := ⟨(2+m).toNat, by omega, by omega, by omega⟩
  have MZ : M ≤ sizeLine := Nat.le_trans M1 (by decide)
  rw [← hP, hM, Int.toNat_natCast, rng0]
  refine ⟨by decide, True.intro, by omega, ?_⟩
  refine lc_map (f := fun i : Nat => DV.D.int i) (g := fun i : Nat => DV.D.int (cv s P i)) (List.range M) 0 ?_ (by rw [List.length_range]; omega) [] rfl ?_
  · intro i hi
    have hi := List.mem_range.mp hi
    try simp only [w_var, w_int, w_bl, w_non, w_str, w_gl, w_ty, w_bin, w_un, w_cmp, w_chain, w_and, w_or, w_not, w_ife, ev_nil, ev_cons, w_tup, w_lst, w_lstM, w_ix, part_nop, w_sl, w_bi, w_call, w_callS, w_meth, w_op, w_attr, w_app, w_idx, w_dzip, w_lc, w_lcM, w_tru, w_nott, w_andt, w_ort, i_itv, i_rng1, i_rng2, i_enm, b_nil, b_cons, s_exp, s_doc, s_pass, s_brk, s_cont, s_never, s_set, s_asg, g_var, g_sub, g_tup, gs_nil, gs_cons, s_par, s_ret, s_retF, s_retN, s_ite, s_for, for_nil, s_attr, w_prp, w_dun, w_fmt, w_fst, js_nil, js_cons, w_xisi, s_raise0, s_par3, p_add, p_addS, p_addT, p_addL, p_addB, p_sub, p_mul, p_mulL, p_fdiv, p_mod, p_pow, p_neg, p_eqI, p_neI, p_eqS, p_neS, p_eqB, p_lt, p_le, p_gt, p_ge, p_isN, p_isNN, p_isB, p_isNB, p_inT, p_ninT, p_ninK, p_ixL, p_ixT, p_ixK, p_ixG, p_ixR, p_put, p_slL, p_slT, p_lenL, p_lenT, p_lenS, p_intI, p_abs, p_max, p_min, p_divmod, p_tupT, p_tupL, p_tupR, p_all, p_any, p_repr, p_isi, p_app, p_idx, p_itL, p_itT, p_rng1, p_rng2, p_enmT, p_enmL, p_fmtS, p_fmtI, p_dlenI, p_dreprI, p_dboolI, p_dlenL, p_dlenT, p_dlenS, p_dreprL, p_dreprT, p_dreprS, p_dreprN, p_dreprB, p_dreprO, p_dboolN, p_dboolB, p_dboolL, p_strI, p_strS, oto_some, slTo_v, tst_bl, asInt_int, asBl_bl, asLst_l, asRef_r, asL_l, asStr_s, asExn_e, List.set_cons_zero, List.set_cons_succ, List.getElem?_cons_zero, List.getElem?_cons_succ, List.length_cons, List.length_nil, List.nil_append, List.cons_append, List.append_nil, Tgd.set, wipeD, List.getElem?_set_self, List.length_set, List.set_set, p_dzip, p_putA, asIns_i, tn_non, tn_bl, tn_int, tn_str, tn_tup, tn_lst, tn_dK, tn_ins, asTn_ty, asTn_glo, tru_bl, tru_non, tru_int, tru_lst, tru_tup, truP_bl, truP_non, truP_int, truP_lst, truP_tup, isNon_non, isNon_int, isNon_tup, isNon_lst, isNon_str, isNon_ins, seqD_tup, seqD_lst, insOf_ins, atI_0, atI_1, atI_2, atI_3, atI_4, ixN_0, ixN_1, ixN_2, ixN_3, ixN_4]
    have e : ((cv s P i : Nat) : Int) = (s + (i : Int) * P) % 5 := by
      unfold cv
      exact Int.toNat_of_nonneg (by omega)
    rw [e]
    exact ⟨mul_ok (by omega) (by omega) (by omega) (by omega), by decide, rfl, True.intro⟩
  · rw [List.nil_append]
    refine ⟨by decide, by omega, ?_⟩
    refine for_inv (fun ds ρ st' => ∃ (ps ys : List Nat) (x6 x9 x10 x11 : Sl), ps ++ ys = List.range M ∧ ds = ys.map (fun i : Nat => DV.D.int i) ∧ ρ = [.v (.ref l), .v (.lst (ws.map .int)), .v (.int by'), .v (.int s), .v (.int P), .v (.int M), x6, .v (.lst ((List.range M).map fun i : Nat => DV.D.int (cv s P i))), .v (.ref st3.length), x9, x10, x11] ∧ st'[st3.length]? = some (.lst (ps.map fun j => fD (cf ws s P by' M j))) ∧ FrA st3 st') ?_ ?_ _ _ _ ⟨[], List.range M, _, _, _, _, rfl, rfl, rfl, (by rw [List.getElem?_append_right (Nat.le_refl _), Nat.sub_self]; rfl), .app _ _⟩
    · rintro d ds ρ st' ⟨ps, ys, x6, x9, x10, x11, e1, e2, rfl, g, fr⟩
      cases ys with
      | nil => cases e2
      | cons r ys =>
        simp only [List.map_cons, List.cons.injEq] at e2
        obtain ⟨rfl, rfl⟩ := e2
        have hr : r < M := List.mem_range.mp (by rw [← e1]; simp)
        have lp : ps.length < 5 := by
          have := congrArg List.length e1
          simp at this
          omega
        have gl : st3.length < st'.length := (List.getElem?_eq_some_iff.mp g).1
        have hm : (r + 1) % M < M := Nat.mod_lt _ (by omega)
        have a1 : atI ((List.range M).map fun i : Nat => DV.D.int (cv s P i)) (r : Int) = some (.int (cv s P r)) := atI_get (by
          rw [List.getElem?_map, List.getElem?_range hr]; rfl)
        have a2 : atI ((List.range M).map fun i : Nat => DV.D.int (cv s P i)) (((r : Int) + 1) % (M : Int)) = some (.int (cv s P ((r + 1) % M))) := by
          rw [show ((r : Int) + 1) % (M : Int) = (((r + 1) % M : Nat) : Int) by rw [Int.natCast_emod]; rfl]
          exact atI_get (by rw [List.getElem?_map, List.getElem?_range hm]; rfl)
        have n1 := at_nm (cv s P r) (by omega) (by have := cv_lt s P r; omega)
        have n2 := at_nm (cv s P ((r + 1) % M)) (by omega) (by have := cv_lt s P ((r + 1) % M); omega)
        rw [Int.toNat_natCast] at n1 n2
        have w1 := at_ws (ws := ws) (i := cv s P r) (by have := cv_lt s P r; omega)
        have w2 := at_ws (ws := ws) (i := cv s P ((r + 1) % M)) (by have := cv_lt s P ((r + 1) % M); omega)
        have sz : (ps.map fun j => fD (cf ws s P by' M j)).length < sizeLine := Nat.lt_of_lt_of_le (show (ps.map fun j => fD (cf ws s P by' M j)).length < 5 by rw [List.length_map]; exact lp) (by decide)
        try simp only [w_var, w_int, w_bl, w_non, w_str, w_gl, w_ty, w_bin, w_un, w_cmp, w_chain, w_and, w_or, w_not, w_ife, ev_nil, ev_cons, w_tup, w_lst, w_lstM, w_ix, part_nop, w_sl, w_bi, w_call, w_callS, w_meth, w_op, w_attr, w_app, w_idx, w_dzip, w_lc, w_lcM, w_tru, w_nott, w_andt, w_ort, i_itv, i_rng1, i_rng2, i_enm, b_nil, b_cons, s_exp, s_doc, s_pass, s_brk, s_cont, s_never, s_set, s_asg, g_var, g_sub, g_tup, gs_nil, gs_cons, s_par, s_ret, s_retF, s_retN, s_ite, s_for, for_nil, s_attr, w_prp, w_dun, w_fmt, w_fst, js_nil, js_cons, w_xisi, s_raise0, s_par3, p_add, p_addS, p_addT, p_addL, p_addB, p_sub, p_mul, p_mulL, p_fdiv, p_mod, p_pow, p_neg, p_eqI, p_neI, p_eqS, p_neS, p_eqB, p_lt, p_le, p_gt, p_ge, p_isN, p_isNN, p_isB, p_isNB, p_inT, p_ninT, p_ninK, p_ixL, p_ixT, p_ixK, p_ixG, p_ixR, p_put, p_slL, p_slT, p_lenL, p_lenT, p_lenS, p_intI, p_abs, p_max, p_min, p_divmod, p_tupT, p_tupL, p_tupR, p_all, p_any, p_repr, p_isi, p_app, p_idx, p_itL, p_itT, p_rng1, p_rng2, p_enmT, p_enmL, p_fmtS, p_fmtI, p_dlenI, p_dreprI, p_dboolI, p_dlenL, p_dlenT, p_dlenS, p_dreprL, p_dreprT, p_dreprS, p_dreprN, p_dreprB, p_dreprO, p_dboolN, p_dboolB, p_dboolL, p_strI, p_strS, oto_some, slTo_v, tst_bl, asInt_int, asBl_bl, asLst_l, asRef_r, asL_l, asStr_s, asExn_e, List.set_cons_zero, List.set_cons_succ, List.getElem?_cons_zero, List.getElem?_cons_succ, List.length_cons, List.length_nil, List.nil_append, List.cons_append, List.append_nil, a1, a2, List.getElem?_set_self, List.length_set, List.set_set, p_dzip, p_putA, asIns_i, tn_non, tn_bl, tn_int, tn_str, tn_tup, tn_lst, tn_dK, tn_ins, asTn_ty, asTn_glo, tru_bl, tru_non, tru_int, tru_lst, tru_tup, truP_bl, truP_non, truP_int, truP_lst, truP_tup, isNon_non, isNon_int, isNon_tup, isNon_lst, isNon_str, isNon_ins, seqD_tup, seqD_lst, insOf_ins, atI_0, atI_1, atI_2, atI_3, atI_4, ixN_0, ixN_1, ixN_2, ixN_3, ixN_4]
        refine ⟨by omega, fun q => ?_, fun q => ?_⟩
        all_goals
          try simp only [w_var, w_int, w_bl, w_non, w_str, w_gl, w_ty, w_bin, w_un, w_cmp, w_chain, w_and, w_or, w_not, w_ife, ev_nil, ev_cons, w_tup, w_lst, w_lstM, w_ix, part_nop, w_sl, w_bi, w_call, w_callS, w_meth, w_op, w_attr, w_app, w_idx, w_dzip, w_lc, w_lcM, w_tru, w_nott, w_andt, w_ort, i_itv, i_rng1, i_rng2, i_enm, b_nil, b_cons, s_exp, s_doc, s_pass, s_brk, s_cont, s_never, s_set, s_asg, g_var, g_sub, g_tup, gs_nil, gs_cons, s_par, s_ret, s_retF, s_retN, s_ite, s_for, for_nil, s_attr, w_prp, w_dun, w_fmt, w_fst, js_nil, js_cons, w_xisi, s_raise0, s_par3, p_add, p_addS, p_addT, p_addL, p_addB, p_sub, p_mul, p_mulL, p_fdiv, p_mod, p_pow, p_neg, p_eqI, p_neI, p_eqS, p_neS, p_eqB, p_lt, p_le, p_gt, p_ge, p_isN, p_isNN, p_isB, p_isNB, p_inT, p_ninT, p_ninK, p_ixL, p_ixT, p_ixK, p_ixG, p_ixR, p_put, p_slL, p_slT, p_lenL, p_lenT, p_lenS, p_intI, p_abs, p_max, p_min, p_divmod, p_tupT, p_tupL, p_tupR, p_all, p_any, p_repr, p_isi, p_app, p_idx, p_itL, p_itT, p_rng1, p_rng2, p_enmT, p_enmL, p_fmtS, p_fmtI, p_dlenI, p_dreprI, p_dboolI, p_dlenL, p_dlenT, p_dlenS, p_dreprL, p_dreprT, p_dreprS, p_dreprN, p_dreprB, p_dreprO, p_dboolN, p_dboolB, p_dboolL, p_strI, p_strS, oto_some, slTo_v, tst_bl, asInt_int, asBl_bl, asLst_l, asRef_r, asL_l, asStr_s, asExn_e, List.set_cons_zero, List.set_cons_succ, List.getElem?_cons_zero, List.getElem?_cons_succ, List.length_cons, List.length_nil, List.nil_append, List.cons_append, List.append_nil, g, List.getElem?_set_self, List.length_set, List.set_set, p_dzip, p_putA, asIns_i, tn_non, tn_bl, tn_int, tn_str, tn_tup, tn_lst, tn_dK, tn_ins, asTn_ty, asTn_glo, tru_bl, tru_non, tru_int, tru_lst, tru_tup, truP_bl, truP_non, truP_int, truP_lst, truP_tup, isNon_non, isNon_int, isNon_tup, isNon_lst, isNon_str, isNon_ins, seqD_tup, seqD_lst, insOf_ins, atI_0, atI_1, atI_2, atI_3, atI_4, ixN_0, ixN_1, ixN_2, ixN_3, ixN_4]
          refine ⟨True.intro, R.to_mono names20 ?_⟩
          rintro _ st4 ⟨rfl, e4⟩
          have e4 := e4.symm
          subst e4
          try simp only [w_var, w_int, w_bl, w_non, w_str, w_gl, w_ty, w_bin, w_un, w_cmp, w_chain, w_and, w_or, w_not, w_ife, ev_nil, ev_cons, w_tup, w_lst, w_lstM, w_ix, part_nop, w_sl, w_bi, w_call, w_callS, w_meth, w_op, w_attr, w_app, w_idx, w_dzip, w_lc, w_lcM, w_tru, w_nott, w_andt, w_ort, i_itv, i_rng1, i_rng2, i_enm, b_nil, b_cons, s_exp, s_doc, s_pass, s_brk, s_cont, s_never, s_set, s_asg, g_var, g_sub, g_tup, gs_nil, gs_cons, s_par, s_ret, s_retF, s_retN, s_ite, s_for, for_nil, s_attr, w_prp, w_dun, w_fmt, w_fst, js_nil, js_cons, w_xisi, s_raise0, s_par3, p_add, p_addS, p_addT, p_addL, p_addB, p_sub, p_mul, p_mulL, p_fdiv, p_mod, p_pow, p_neg, p_eqI, p_neI, p_eqS, p_neS, p_eqB, p_lt, p_le, p_gt, p_ge, p_isN, p_isNN, p_isB, p_isNB, p_inT, p_ninT, p_ninK, p_ixL, p_ixT, p_ixK, p_ixG, p_ixR, p_put, p_slL, p_slT, p_lenL, p_lenT, p_lenS, p_intI, p_abs, p_max, p_min, p_divmod, p_tupT, p_tupL, p_tupR, p_all, p_any, p_repr, p_isi, p_app, p_idx, p_itL, p_itT, p_rng1, p_rng2, p_enmT, p_enmL, p_fmtS, p_fmtI, p_dlenI, p_dreprI, p_dboolI, p_dlenL, p_dlenT, p_dlenS, p_dreprL, p_dreprT, p_dreprS, p_dreprN, p_dreprB, p_dreprO, p_dboolN, p_dboolB, p_dboolL, p_strI, p_strS, oto_some, slTo_v, tst_bl, asInt_int, asBl_bl, asLst_l, asRef_r, asL_l, asStr_s, asExn_e, List.set_cons_zero, List.set_cons_succ, List.getElem?_cons_zero, List.getElem?_cons_succ, List.length_cons, List.length_nil, List.nil_append, List.cons_append, List.append_nil, n1, List.getElem?_set_self, List.length_set, List.set_set, p_dzip, p_putA, asIns_i, tn_non, tn_bl, tn_int, tn_str, tn_tup, tn_lst, tn_dK, tn_ins, asTn_ty, asTn_glo, tru_bl, tru_non, tru_int, tru_lst, tru_tup, truP_bl, truP_non, truP_int, truP_lst, truP_tup, isNon_non, isNon_int, isNon_tup, isNon_lst, isNon_str, isNon_ins, seqD_tup, seqD_lst, insOf_ins, atI_0, atI_1, atI_2, atI_3, atI_4, ixN_0, ixN_1, ixN_2, ixN_3, ixN_4]
          refine ⟨True.intro, R.to_mono names20 ?_⟩
          rintro _ st4 ⟨rfl, e4⟩
          have e4 := e4.symm
          subst e4
          try simp only [w_var, w_int, w_bl, w_non, w_str, w_gl, w_ty, w_bin, w_un, w_cmp, w_chain, w_and, w_or, w_not, w_ife, ev_nil, ev_cons, w_tup, w_lst, w_lstM, w_ix, part_nop, w_sl, w_bi, w_call, w_callS, w_meth, w_op, w_attr, w_app, w_idx, w_dzip, w_lc, w_lcM, w_tru, w_nott, w_andt, w_ort, i_itv, i_rng1, i_rng2, i_enm, b_nil, b_cons, s_exp, s_doc, s_pass, s_brk, s_cont, s_never, s_set, s_asg, g_var, g_sub, g_tup, gs_nil, gs_cons, s_par, s_ret, s_retF, s_retN, s_ite, s_for, for_nil, s_attr, w_prp, w_dun, w_fmt, w_fst, js_nil, js_cons, w_xisi, s_raise0, s_par3, p_add, p_addS, p_addT, p_addL, p_addB, p_sub, p_mul, p_mulL, p_fdiv, p_mod, p_pow, p_neg, p_eqI, p_neI, p_eqS, p_neS, p_eqB, p_lt, p_le, p_gt, p_ge, p_isN, p_isNN, p_isB, p_isNB, p_inT, p_ninT, p_ninK, p_ixL, p_ixT, p_ixK, p_ixG, p_ixR, p_put, p_slL, p_slT, p_lenL, p_lenT, p_lenS, p_intI, p_abs, p_max, p_min, p_divmod, p_tupT, p_tupL, p_tupR, p_all, p_any, p_repr, p_isi, p_app, p_idx, p_itL, p_itT, p_rng1, p_rng2, p_enmT, p_enmL, p_fmtS, p_fmtI, p_dlenI, p_dreprI, p_dboolI, p_dlenL, p_dlenT, p_dlenS, p_dreprL, p_dreprT, p_dreprS, p_dreprN, p_dreprB, p_dreprO, p_dboolN, p_dboolB, p_dboolL, p_strI, p_strS, oto_some, slTo_v, tst_bl, asInt_int, asBl_bl, asLst_l, asRef_r, asL_l, asStr_s, asExn_e, List.set_cons_zero, List.set_cons_succ, List.getElem?_cons_zero, List.getElem?_cons_succ, List.length_cons, List.length_nil, List.nil_append, List.cons_append, List.append_nil, n2, w1, w2, g, List.getElem?_set_self, List.length_set, List.set_set, p_dzip, p_putA, asIns_i, tn_non, tn_bl, tn_int, tn_str, tn_tup, tn_lst, tn_dK, tn_ins, asTn_ty, asTn_glo, tru_bl, tru_non, tru_int, tru_lst, tru_tup, truP_bl, truP_non, truP_int, truP_lst, truP_tup, isNon_non, isNon_int, isNon_tup, isNon_lst, isNon_str, isNon_ins, seqD_tup, seqD_lst, insOf_ins, atI_0, atI_1, atI_2, atI_3, atI_4, ixN_0, ixN_1, ixN_2, ixN_3, ixN_4]
          refine ⟨by decide, sz, ps ++ [r], ys, _, _, _, _, by rw [← e1]; simp, rfl, rfl, ?_, fr.set (Nat.le_refl _)⟩
          rw [List.getElem?_set_self gl, List.map_append, List.map_cons, List.map_nil]
          unfold fD cf
          dsimp only
          first
            | rw [if_pos (by have := of_decide_eq_true q; omega)]
            | rw [if_neg (by have := of_decide_eq_false q; omega)]
    · rintro ρ st' ⟨ps, ys, x6, x9, x10, x11, e1, e2, rfl, g, fr⟩
      cases ys with
      | cons r ys => cases e2
      | nil =>
        rw [List.append_nil] at e1
        subst e1
        try simp only [w_var, w_int, w_bl, w_non, w_str, w_gl, w_ty, w_bin, w_un, w_cmp, w_chain, w_and, w_or, w_not, w_ife, ev_nil, ev_cons, w_tup, w_lst, w_lstM, w_ix, part_nop, w_sl, w_bi, w_call, w_callS, w_meth, w_op, w_attr, w_app, w_idx, w_dzip, w_lc, w_lcM, w_tru, w_nott, w_andt, w_ort, i_itv, i_rng1, i_rng2, i_enm, b_nil, b_cons, s_exp, s_doc, s_pass, s_brk, s_cont, s_never, s_set, s_asg, g_var, g_sub, g_tup, gs_nil, gs_cons, s_par, s_ret, s_retF, s_retN, s_ite, s_for, for_nil, s_attr, w_prp, w_dun, w_fmt, w_fst, js_nil, js_cons, w_xisi, s_raise0, s_par3, p_add, p_addS, p_addT, p_addL, p_addB, p_sub, p_mul, p_mulL, p_fdiv, p_mod, p_pow, p_neg, p_eqI, p_neI, p_eqS, p_neS, p_eqB, p_lt, p_le, p_gt, p_ge, p_isN, p_isNN, p_isB, p_isNB, p_inT, p_ninT, p_ninK, p_ixL, p_ixT, p_ixK, p_ixG, p_ixR, p_put, p_slL, p_slT, p_lenL, p_lenT, p_lenS, p_intI, p_abs, p_max, p_min, p_divmod, p_tupT, p_tupL, p_tupR, p_all, p_any, p_repr, p_isi, p_app, p_idx, p_itL, p_itT, p_rng1, p_rng2, p_enmT, p_enmL, p_fmtS, p_fmtI, p_dlenI, p_dreprI, p_dboolI, p_dlenL, p_dlenT, p_dlenS, p_dreprL, p_dreprT, p_dreprS, p_dreprN, p_dreprB, p_dreprO, p_dboolN, p_dboolB, p_dboolL, p_strI, p_strS, oto_some, slTo_v, tst_bl, asInt_int, asBl_bl, asLst_l, asRef_r, asL_l, asStr_s, asExn_e, List.set_cons_zero, List.set_cons_succ, List.getElem?_cons_zero, List.getElem?_cons_succ, List.length_cons, List.length_nil, List.nil_append, List.cons_append, List.append_nil, List.getElem?_set_self, List.length_set, List.set_set, p_dzip, p_putA, asIns_i, tn_non, tn_bl, tn_int, tn_str, tn_tup, tn_lst, tn_dK, tn_ins, asTn_ty, asTn_glo, tru_bl, tru_non, tru_int, tru_lst, tru_tup, truP_bl, truP_non, truP_int, truP_lst, truP_tup, isNon_non, isNon_int, isNon_tup, isNon_lst, isNon_str, isNon_ins, seqD_tup, seqD_lst, insOf_ins, atI_0, atI_1, atI_2, atI_3, atI_4, ixN_0, ixN_1, ixN_2, ixN_3, ixN_4]
        refine p_frzL g ⟨⟨s, P, M, ?_, ⟨s0, s1⟩, ⟨P0, P1⟩, M0, M1⟩, ?_, ?_⟩
        · unfold cfs
          rw [List.map_map]
          rfl
        · exact (h3.fr (fr.set (Nat.le_refl _))).mono (by omega)
        · exact f1.trans (f2.trans (f3.trans (fr.set (Nat.le_refl _)).s))
theorem cfs_len (ws : List Int) (s p b : Int) (M : Nat) : (cfs ws s p b M).length = M := by unfold cfs; simp
theorem circle {l : Nat} {n by' : Int} {ws : List Int} (h : Pool n st l) (hn : n ≤ 2 ^ 50) (h5 : ws.length = 5) (hb : 0 < by') : (S (k + 3) 23 [] [.ref l, .lst (ws.map .int), .int by'] st).to fun d st' => (∃ cs : List Fc, d = .lst (cs.map fD) ∧ Torn cs ∧ cs.length ≤ 5) ∧ Pool (n + 3) st' l ∧ FrS l st st' := by
  refine R.to_mono (circleX h hn h5) ?_
  rintro _ st' ⟨⟨s, P, M, rfl, ⟨s0, s1⟩, ⟨p0, p1⟩, m0, m1⟩, r⟩
  exact ⟨⟨_, rfl, cfs_torn s0 s1 p0 p1 m0 m1 hb, by rw [cfs_len]; exact m1⟩, r⟩
end
end K22

namespace K22
open PySem PySem.Spec PyProof.Rows L2 DV
section
variable {k : Nat} {st : Store} {Q : DV.D → Store → Prop} {QL : List DV.D → Store → Prop} {a b c d : DV.D}
theorem drawnF {l : Nat} {n : Int} {ρ : DV.Env} {m i : Nat} {ws : List Int} (i0 : i ≠ 0) (i1 : i ≠ 1) (h : Pool n st l) (hm : m < 10) (hn : n ≤ 2 ^ 49) (h0 : ρ[0]? = some (.v (.ref l))) (h3 : ρ[1]? = some (.v (.lst (ws.map .int)))) (w5 : ws.length = 5)
    (hQ : ∀ (fs : List Fc) st', fs.length = m → (∀ f ∈ fs, Fok 5 f) → (∀ f ∈ fs, Holds ws f ∧ f.2.2 ≤ hid ws f.1 - hid ws f.2.1 + 2 ^ 100) → Pool (n + 120) st' l → FrS l st st' → QL (fs.map fD) st') :
    (lcP (.nm i) (denT lw.tb (S (k + 4)) .nop) (den lw.tb (S (k + 4)) (.call 22 [] [.var 0, .var 1] [])) ρ (rng 0 m) [] st).to QL := by
  refine lc_inv (fun ds acc st' => ∃ fs : List Fc, acc = fs.map fD ∧ fs.length + ds.length = m ∧ (∀ f ∈ fs, Fok 5 f) ∧ (∀ f ∈ fs, Holds ws f ∧ f.2.2 ≤ hid ws f.1 - hid ws f.2.1 + 2 ^ 100) ∧ Pool (n + 12 * fs.length) st' l ∧ FrS l st st') ?_ ?_ _ _ _ ⟨[], rfl, by simp [rng], fun f hf => (by cases hf), fun f hf => (by cases hf), h.mono (by simp), .refl _ _⟩
  · rintro d ds acc st' ⟨fs, rfl, e, hf, ho, hp, fr⟩
    have e' : fs.length + (ds.length + 1) = m := e
    show R.tx _ _ _
    rw [denT_nop]
    refine ⟨fun _ => ?_, fun z => by cases z⟩
    have g0 : (ρ.set i (.v d))[0]? = some (.v (.ref l)) := by rw [List.getElem?_set_ne i0]; exact h0
    have g3 : (ρ.set i (.v d))[1]? = some (.v (.lst (ws.map .int))) := by rw [List.getElem?_set_ne i1]; exact h3
    try simp only [w_var, w_int, w_bl, w_non, w_str, w_gl, w_ty, w_bin, w_un, w_cmp, w_chain, w_and, w_or, w_not, w_ife, ev_nil, ev_cons, w_tup, w_lst, w_lstM, w_ix, part_nop, w_sl, w_bi, w_call, w_callS, w_meth, w_op, w_attr, w_app, w_idx, w_dzip, w_lc, w_lcM, w_tru, w_nott, w_andt, w_ort, i_itv, i_rng1, i_rng2, i_enm, b_nil, b_cons, s_exp, s_doc, s_pass, s_brk, s_cont, s_never, s_set, s_asg, g_var, g_sub, g_tup, gs_nil, gs_cons, s_par, s_ret, s_retF, s_retN, s_ite, s_for, for_nil, s_attr, w_prp, w_dun, w_fmt, w_fst, js_nil, js_cons, w_xisi, s_raise0, s_par3, p_add, p_addS, p_addT, p_addL, p_addB, p_sub, p_mul, p_mulL, p_fdiv, p_mod, p_pow, p_neg, p_eqI, p_neI, p_eqS, p_neS, p_eqB, p_lt, p_le, p_gt, p_ge, p_isN, p_isNN, p_isB, p_isNB, p_inT, p_ninT, p_ninK, p_ixL, p_ixT, p_ixK, p_ixG, p_ixR, p_put, p_slL, p_slT, p_lenL, p_lenT, p_lenS, p_intI, p_abs, p_max, p_min, p_divmod, p_tupT, p_tupL, p_tupR, p_all, p_any, p_repr, p_isi, p_app, p_idx, p_itL, p_itT, p_rng1, p_rng2, p_enmT, p_enmL, p_fmtS, p_fmtI, p_dlenI, p_dreprI, p_dboolI, p_dlenL, p_dlenT, p_dlenS, p_dreprL, p_dreprT, p_dreprS, p_dreprN, p_dreprB, p_dreprO, p_dboolN, p_dboolB, p_dboolL, p_strI, p_strS, oto_some, slTo_v, tst_bl, asInt_int, asBl_bl, asLst_l, asRef_r, asL_l, asStr_s, asExn_e, List.set_cons_zero, List.set_cons_succ, List.getElem?_cons_zero, List.getElem?_cons_succ, List.length_cons, List.length_nil, List.nil_append, List.cons_append, List.append_nil, g0, g3, List.getElem?_set_self, List.length_set, List.set_set, p_dzip, p_putA, asIns_i, tn_non, tn_bl, tn_int, tn_str, tn_tup, tn_lst, tn_dK, tn_ins, asTn_ty, asTn_glo, tru_bl, tru_non, tru_int, tru_lst, tru_tup, truP_bl, truP_non, truP_int, truP_lst, truP_tup, isNon_non, isNon_int, isNon_tup, isNon_lst, isNon_str, isNon_ins, seqD_tup, seqD_lst, insOf_ins, atI_0, atI_1, atI_2, atI_3, atI_4, ixN_0, ixN_1, ixN_2, ixN_3, ixN_4]
    have q := trueFact (k := k) hp (by omega) w5
    refine ⟨True.intro, R.to_mono q ?_⟩
    rintro _ st2 ⟨⟨f, rfl, ok, hh⟩, h2, f2⟩
    refine ⟨Nat.lt_of_lt_of_le (show (fs.map fD).length < 10 by rw [List.length_map]; omega) (by decide), fs ++ [f], by simp, by simp; omega, fun g hg => ?_, fun g hg => ?_, h2.mono (by simp; omega), fr.trans f2⟩
    · rcases List.mem_append.mp hg with hg | hg
      · exact hf g hg
      · have : g = f := by simpa using hg
        subst this
        exact ok
    · rcases List.mem_append.mp hg with hg | hg
      · exact ho g hg
      · have : g = f := by simpa using hg
        subst this
        exact hh
  · rintro acc st' ⟨fs, rfl, e, hf, ho, hp, fr⟩
    have e' : fs.length = m := by simpa using e
    exact hQ fs st' e' hf ho (hp.mono (by omega)) fr
theorem to_eq {r : R DV.D} {v : DV.D} (h : r.to fun d st' => d = v ∧ st' = st) : r.to Q = Q v st := by
  obtain ⟨a, s, e, h1, h2⟩ := R.to_ex h
  rw [e, h1, h2]
  rfl
theorem part_var (i : Nat) (ρ : DV.Env) (tb : Tb) (G : Gam) {E : Ex} (Q : Option Int → Store → Prop) : partTo tb G E (.var i) ρ st Q = (den tb G (.var i) ρ st).tx E fun d st => asInt d fun i => Q (some i) st := part_of _ _ _ _ _ (by intro z; cases z) _
theorem part_un (o : UnaryOp) (i : IE) (ρ : DV.Env) (tb : Tb) (G : Gam) {E : Ex} (Q : Option Int → Store → Prop) : partTo tb G E (.un o i) ρ st Q = (den tb G (.un o i) ρ st).tx E fun d st => asInt d fun i => Q (some i) st := part_of _ _ _ _ _ (by intro z; cases z) _
theorem part_int (i : Int) (ρ : DV.Env) (tb : Tb) (G : Gam) {E : Ex} (Q : Option Int → Store → Prop) : partTo tb G E (.int i) ρ st Q = (den tb G (.int i) ρ st).tx E fun d st => asInt d fun i => Q (some i) st := part_of _ _ _ _ _ (by intro z; cases z) _
theorem cut_to {α : Type} (g : α → DV.D) (xs : List α) (v : Nat) : DV.cutD (xs.map g) none (some (v : Int)) = (xs.take v).map g := by
  unfold DV.cutD
  rw [HT.sIx_none, HT.sIx_nat, Nat.sub_zero, List.drop_zero, List.length_map, List.map_take]
  by_cases h : v ≤ xs.length
  · rw [Nat.min_eq_left h]
  · rw [Nat.min_eq_right (by omega), List.take_of_length_le (by simp), List.take_of_length_le (by rw [List.length_map]; omega)]
theorem cut_from {α : Type} (g : α → DV.D) (xs : List α) (v : Nat) : DV.cutD (xs.map g) (some (v : Int)) none = (xs.drop v).map g := by
  unfold DV.cutD
  rw [HT.sIx_none, HT.sIx_nat, List.length_map]
  by_cases h : v ≤ xs.length
  · rw [Nat.min_eq_left h, List.take_of_length_le (by simp), List.map_drop]
  · rw [Nat.min_eq_right (by omega), List.drop_of_length_le (by simp), List.drop_of_length_le (by omega), List.take_nil]
    rfl
theorem cut_ini (xs : List DV.D) (x : DV.D) : DV.cutD (xs ++ [x]) none (some (-1)) = xs := by
  unfold DV.cutD
  rw [HT.sIx_none, Nat.sub_zero, List.drop_zero]
  have e : HT.sIx (xs ++ [x]).length (xs ++ [x]).length (some (-1)) = xs.length := by
    unfold HT.sIx
    simp
    omega
  rw [e]
  simp
theorem at_last (xs : List DV.D) (x : DV.D) : atI (xs ++ [x]) (-1) = some x := by
  unfold atI ixN
  rw [if_neg (by decide), if_pos (by simp; omega)]
  have e : (-1 + ((xs ++ [x]).length : Int)).toNat = xs.length := by simp; omega
  rw [e]
  show (xs ++ [x])[xs.length]? = _
  simp
end
end K22

namespace K22
open PySem PySem.Spec PyProof.Rows L2 DV
section
variable {k : Nat} {st : Store} {Q : DV.D → Store → Prop} {a b c d : DV.D}
theorem e25 : (S (k + 1) 25 [] [a] st).to Q = (denB lw.tb (S k) is25 [.v a, .un, .un, .un, .un, .un, .un, .un, .un, .un] st).to (endPo Q) := enter (d := d25) (xs := [a]) rfl rfl
def rowL (t : SP.Tab) (r : Nat) : List DV.D := (List.range 5).map fun c => oD (t r c)
/-- the law's table: its rows lie from b on -/
def TabS (t : SP.Tab) (b : Nat) (st : Store) : Prop := ∀ x, x < 5 → st[b + x]? = some (.lst (rowL t x))
def FrB (b n : Nat) (st st' : Store) : Prop := st.length ≤ st'.length ∧ ∀ i, i < b → st'[i]? = st[i]?
theorem ix_nm : ∀ i, i < 5 → (flatD (.str (nm i)) && nml.all flatD) = true ∧ (nml.findIdx? fun z => eqF z (.str (nm i))) = some i := by decide +kernel
theorem row_set {t : SP.Tab} {x y z r : Nat} {b : Int} (hz : z < 5) : ((List.range 5).map fun c => oD (t x c)).set z (oD (SP.lb (t x z) b (t y z))) = rowL (SP.put t x y b z) x := by
  unfold rowL
  refine List.ext_getElem (by simp) fun i h1 h2 => ?_
  rw [List.getElem_set]
  simp only [List.getElem_map, List.getElem_range]
  unfold SP.put
  split
  · rename_i e
    subst e
    rw [if_pos ⟨rfl, rfl⟩]
  · rename_i e
    rw [if_neg (fun q => e q.2.symm)]
theorem tabS_put {t : SP.Tab} {b x y z : Nat} {by' : Int} (h : TabS t b st) (hx : x < 5) (hz : z < 5) : TabS (SP.put t x y by' z) b (st.set (b + x) (.lst (rowL (SP.put t x y by' z) x))) := fun r hr => by
  by_cases e : r = x
  · subst e
    exact List.getElem?_set_self (List.getElem?_eq_some_iff.mp (h r hr)).1
  · rw [List.getElem?_set_ne (by omega), h r hr]
    congr 2
    unfold rowL SP.put
    refine List.map_congr_left fun c _ => ?_
    rw [if_neg (fun q => e q.1)]
theorem tabS_same {t : SP.Tab} {b x y z : Nat} {by' : Int} (h : TabS t b st) (e : SP.lb (t x z) by' (t y z) = t x z) : TabS (SP.put t x y by' z) b st := fun r hr => by
  rw [h r hr]
  congr 2
  unfold rowL SP.put
  refine List.map_congr_left fun c _ => ?_
  split
  · rename_i q
    obtain ⟨rfl, rfl⟩ := q
    rw [e]
  · rfl
theorem at_l {t : SP.Tab} {r c : Nat} (hc : c < 5) : atI (rowL t r) (c : Int) = some (oD (t r c)) := atI_get (by
  unfold rowL
  rw [List.getElem?_map, List.getElem?_range hc]; rfl)
theorem ixN_l {t : SP.Tab} {r c : Nat} (hc : c < 5) : ixN (rowL t r).length (c : Int) = some c := by
  unfold ixN rowL
  rw [if_pos (by omega), if_pos (by simp; omega)]
  simp
def refs (b : Nat) : List DV.D := (List.range 5).map fun x => DV.D.ref (b + x)
theorem at_refs {b x : Nat} (hx : x < 5) : atI (refs b) (x : Int) = some (.ref (b + x)) := atI_get (by
  unfold refs
  rw [List.getElem?_map, List.getElem?_range hx]; rfl)
theorem table {fs : List Fc} (hf : ∀ f ∈ fs, Fok 5 f) : (S (k + 2) 25 [] [.lst (fs.map fD)] st).to fun d st' => (∃ (b : Nat) (u : SP.Tab), d = .lst (refs b) ∧ st.length ≤ b ∧ TabS u b st' ∧ SP.Upto fs 4 u ∧ SP.Sound fs u) ∧ FrA st st' := by
  have hi : SP.Ins fs := fun f h => ⟨(hf f h).1, (hf f h).2.1⟩
  rw [e25]
  unfold is25
  try simp only [w_var, w_int, w_bl, w_non, w_str, w_gl, w_ty, w_bin, w_un, w_cmp, w_chain, w_and, w_or, w_not, w_ife, ev_nil, ev_cons, w_tup, w_lst, w_lstM, w_ix, part_nop, w_sl, w_bi, w_call, w_callS, w_meth, w_op, w_attr, w_app, w_idx, w_dzip, w_lc, w_lcM, w_tru, w_nott, w_andt, w_ort, i_itv, i_rng1, i_rng2, i_enm, b_nil, b_cons, s_exp, s_doc, s_pass, s_brk, s_cont, s_never, s_set, s_asg, g_var, g_sub, g_tup, gs_nil, gs_cons, s_par, s_ret, s_retF, s_retN, s_ite, s_for, for_nil, s_attr, w_prp, w_dun, w_fmt, w_fst, js_nil, js_cons, w_xisi, s_raise0, s_par3, p_add, p_addS, p_addT, p_addL, p_addB, p_sub, p_mul, p_mulL, p_fdiv, p_mod, p_pow, p_neg, p_eqI, p_neI, p_eqS, p_neS, p_eqB, p_lt, p_le, p_gt, p_ge, p_isN, p_isNN, p_isB, p_isNB, p_inT, p_ninT, p_ninK, p_ixL, p_ixT, p_ixK, p_ixG, p_ixR, p_put, p_slL, p_slT, p_lenL, p_lenT, p_lenS, p_intI, p_abs, p_max, p_min, p_divmod, p_tupT, p_tupL, p_tupR, p_all, p_any, p_repr, p_isi, p_app, p_idx, p_itL, p_itT, p_rng1, p_rng2, p_enmT, p_enmL, p_fmtS, p_fmtI, p_dlenI, p_dreprI, p_dboolI, p_dlenL, p_dlenT, p_dlenS, p_dreprL, p_dreprT, p_dreprS, p_dreprN, p_dreprB, p_dreprO, p_dboolN, p_dboolB, p_dboolL, p_strI, p_strS, oto_some, slTo_v, tst_bl, asInt_int, asBl_bl, asLst_l, asRef_r, asL_l, asStr_s, asExn_e, List.set_cons_zero, List.set_cons_succ, List.getElem?_cons_zero, List.getElem?_cons_succ, List.length_cons, List.length_nil, List.nil_append, List.cons_append, List.append_nil, List.getElem?_set_self, List.length_set, List.set_set, p_dzip, p_putA, asIns_i, tn_non, tn_bl, tn_int, tn_str, tn_tup, tn_lst, tn_dK, tn_ins, asTn_ty, asTn_glo, tru_bl, tru_non, tru_int, tru_lst, tru_tup, truP_bl, truP_non, truP_int, truP_lst, truP_tup, isNon_non, isNon_int, isNon_tup, isNon_lst, isNon_str, isNon_ins, seqD_tup, seqD_lst, insOf_ins, atI_0, atI_1, atI_2, atI_3, atI_4, ixN_0, ixN_1, ixN_2, ixN_3, ixN_4]
  refine ⟨True.intro, R.to_mono names20 ?_⟩
  rintro _ st1 ⟨rfl, e1⟩
  have e1 := e1.symm
  subst e1
  try simp only [w_var, w_int, w_bl, w_non, w_str, w_gl, w_ty, w_bin, w_un, w_cmp, w_chain, w_and, w_or, w_not, w_ife, ev_nil, ev_cons, w_tup, w_lst, w_lstM, w_ix, part_nop, w_sl, w_bi, w_call, w_callS, w_meth, w_op, w_attr, w_app, w_idx, w_dzip, w_lc, w_lcM, w_tru, w_nott, w_andt, w_ort, i_itv, i_rng1, i_rng2, i_enm, b_nil, b_cons, s_exp, s_doc, s_pass, s_brk, s_cont, s_never, s_set, s_asg, g_var, g_sub, g_tup, gs_nil, gs_cons, s_par, s_ret, s_retF, s_retN, s_ite, s_for, for_nil, s_attr, w_prp, w_dun, w_fmt, w_fst, js_nil, js_cons, w_xisi, s_raise0, s_par3, p_add, p_addS, p_addT, p_addL, p_addB, p_sub, p_mul, p_mulL, p_fdiv, p_mod, p_pow, p_neg, p_eqI, p_neI, p_eqS, p_neS, p_eqB, p_lt, p_le, p_gt, p_ge, p_isN, p_isNN, p_isB, p_isNB, p_inT, p_ninT, p_ninK, p_ixL, p_ixT, p_ixK, p_ixG, p_ixR, p_put, p_slL, p_slT, p_lenL, p_lenT, p_lenS, p_intI, p_abs, p_max, p_min, p_divmod, p_tupT, p_tupL, p_tupR, p_all, p_any, p_repr, p_isi, p_app, p_idx, p_itL, p_itT, p_rng1, p_rng2, p_enmT, p_enmL, p_fmtS, p_fmtI, p_dlenI, p_dreprI, p_dboolI, p_dlenL, p_dlenT, p_dlenS, p_dreprL, p_dreprT, p_dreprS, p_dreprN, p_dreprB, p_dreprO, p_dboolN, p_dboolB, p_dboolL, p_strI, p_strS, oto_some, slTo_v, tst_bl, asInt_int, asBl_bl, asLst_l, asRef_r, asL_l, asStr_s, asExn_e, List.set_cons_zero, List.set_cons_succ, List.getElem?_cons_zero, List.getElem?_cons_succ, List.length_cons, List.length_nil, List.nil_append, List.cons_append, List.append_nil, List.getElem?_set_self, List.length_set, List.set_set, p_dzip, p_putA, asIns_i, tn_non, tn_bl, tn_int, tn_str, tn_tup, tn_lst, tn_dK, tn_ins, asTn_ty, asTn_glo, tru_bl, tru_non, tru_int, tru_lst, tru_tup, truP_bl, truP_non, truP_int, truP_lst, truP_tup, isNon_non, isNon_int, isNon_tup, isNon_lst, isNon_str, isNon_ins, seqD_tup, seqD_lst, insOf_ins, atI_0, atI_1, atI_2, atI_3, atI_4, ixN_0, ixN_1, ixN_2, ixN_3, ixN_4]
  refine ⟨by decide, ?_⟩
  refine lc_inv (fun ds acc st' => ∃ ps ys : List Nat, ps ++ ys = List.range 5 ∧ ds = ys.map (fun i : Nat => DV.D.int i) ∧ acc = ps.map (fun x => DV.D.ref (st.length + x)) ∧ st' = st ++ ps.map fun x => MO.lst (rowL SP.free x)) ?_ ?_ _ _ _ ⟨[], List.range 5, rfl, rfl, rfl, by simp⟩
  · rintro d ds acc st' ⟨ps, ys, e1, e2, rfl, rfl⟩
    cases ys with
    | nil => cases e2
    | cons r ys =>
      simp only [List.map_cons, List.cons.injEq] at e2
      obtain ⟨rfl, rfl⟩ := e2
      have hr : r < 5 := List.mem_range.mp (by rw [← e1]; simp)
      have lp : ps.length < 5 := by
        have := congrArg List.length e1
        simp at this
        omega
      have er : r = ps.length := by
        have q : (List.range 5)[ps.length]? = some r := by rw [← e1]; simp
        rw [List.getElem?_range lp] at q
        exact (Option.some.inj q).symm
      try simp only [w_var, w_int, w_bl, w_non, w_str, w_gl, w_ty, w_bin, w_un, w_cmp, w_chain, w_and, w_or, w_not, w_ife, ev_nil, ev_cons, w_tup, w_lst, w_lstM, w_ix, part_nop, w_sl, w_bi, w_call, w_callS, w_meth, w_op, w_attr, w_app, w_idx, w_dzip, w_lc, w_lcM, w_tru, w_nott, w_andt, w_ort, i_itv, i_rng1, i_rng2, i_enm, b_nil, b_cons, s_exp, s_doc, s_pass, s_brk, s_cont, s_never, s_set, s_asg, g_var, g_sub, g_tup, gs_nil, gs_cons, s_par, s_ret, s_retF, s_retN, s_ite, s_for, for_nil, s_attr, w_prp, w_dun, w_fmt, w_fst, js_nil, js_cons, w_xisi, s_raise0, s_par3, p_add, p_addS, p_addT, p_addL, p_addB, p_sub, p_mul, p_mulL, p_fdiv, p_mod, p_pow, p_neg, p_eqI, p_neI, p_eqS, p_neS, p_eqB, p_lt, p_le, p_gt, p_ge, p_isN, p_isNN, p_isB, p_isNB, p_inT, p_ninT, p_ninK, p_ixL, p_ixT, p_ixK, p_ixG, p_ixR, p_put, p_slL, p_slT, p_lenL, p_lenT, p_lenS, p_intI, p_abs, p_max, p_min, p_divmod, p_tupT, p_tupL, p_tupR, p_all, p_any, p_repr, p_isi, p_app, p_idx, p_itL, p_itT, p_rng1, p_rng2, p_enmT, p_enmL, p_fmtS, p_fmtI, p_dlenI, p_dreprI, p_dboolI, p_dlenL, p_dlenT, p_dlenS, p_dreprL, p_dreprT, p_dreprS, p_dreprN, p_dreprB, p_dreprO, p_dboolN, p_dboolB, p_dboolL, p_strI, p_strS, oto_some, slTo_v, tst_bl, asInt_int, asBl_bl, asLst_l, asRef_r, asL_l, asStr_s, asExn_e, List.set_cons_zero, List.set_cons_succ, List.getElem?_cons_zero, List.getElem?_cons_succ, List.length_cons, List.length_nil, List.nil_append, List.cons_append, List.append_nil, Tgd.set, wipeD, List.getElem?_set_self, List.length_set, List.set_set, p_dzip, p_putA, asIns_i, tn_non, tn_bl, tn_int, tn_str, tn_tup, tn_lst, tn_dK, tn_ins, asTn_ty, asTn_glo, tru_bl, tru_non, tru_int, tru_lst, tru_tup, truP_bl, truP_non, truP_int, truP_lst, truP_tup, isNon_non, isNon_int, isNon_tup, isNon_lst, isNon_str, isNon_ins, seqD_tup, seqD_lst, insOf_ins, atI_0, atI_1, atI_2, atI_3, atI_4, ixN_0, ixN_1, ixN_2, ixN_3, ixN_4]
      rw [denT_nop]
      refine ⟨fun _ => ?_, fun z => by cases z⟩
      try simp only [w_var, w_int, w_bl, w_non, w_str, w_gl, w_ty, w_bin, w_un, w_cmp, w_chain, w_and, w_or, w_not, w_ife, ev_nil, ev_cons, w_tup, w_lst, w_lstM, w_ix, part_nop, w_sl, w_bi, w_call, w_callS, w_meth, w_op, w_attr, w_app, w_idx, w_dzip, w_lc, w_lcM, w_tru, w_nott, w_andt, w_ort, i_itv, i_rng1, i_rng2, i_enm, b_nil, b_cons, s_exp, s_doc, s_pass, s_brk, s_cont, s_never, s_set, s_asg, g_var, g_sub, g_tup, gs_nil, gs_cons, s_par, s_ret, s_retF, s_retN, s_ite, s_for, for_nil, s_attr, w_prp, w_dun, w_fmt, w_fst, js_nil, js_cons, w_xisi, s_raise0, s_par3, p_add, p_addS, p_addT, p_addL, p_addB, p_sub, p_mul, p_mulL, p_fdiv, p_mod, p_pow, p_neg, p_eqI, p_neI, p_eqS, p_neS, p_eqB, p_lt, p_le, p_gt, p_ge, p_isN, p_isNN, p_isB, p_isNB, p_inT, p_ninT, p_ninK, p_ixL, p_ixT, p_ixK, p_ixG, p_ixR, p_put, p_slL, p_slT, p_lenL, p_lenT, p_lenS, p_intI, p_abs, p_max, p_min, p_divmod, p_tupT, p_tupL, p_tupR, p_all, p_any, p_repr, p_isi, p_app, p_idx, p_itL, p_itT, p_rng1, p_rng2, p_enmT, p_enmL, p_fmtS, p_fmtI, p_dlenI, p_dreprI, p_dboolI, p_dlenL, p_dlenT, p_dlenS, p_dreprL, p_dreprT, p_dreprS, p_dreprN, p_dreprB, p_dreprO, p_dboolN, p_dboolB, p_dboolL, p_strI, p_strS, oto_some, slTo_v, tst_bl, asInt_int, asBl_bl, asLst_l, asRef_r, asL_l, asStr_s, asExn_e, List.set_cons_zero, List.set_cons_succ, List.getElem?_cons_zero, List.getElem?_cons_succ, List.length_cons, List.length_nil, List.nil_append, List.cons_append, List.append_nil, List.getElem?_set_self, List.length_set, List.set_set, p_dzip, p_putA, asIns_i, tn_non, tn_bl, tn_int, tn_str, tn_tup, tn_lst, tn_dK, tn_ins, asTn_ty, asTn_glo, tru_bl, tru_non, tru_int, tru_lst, tru_tup, truP_bl, truP_non, truP_int, truP_lst, truP_tup, isNon_non, isNon_int, isNon_tup, isNon_lst, isNon_str, isNon_ins, seqD_tup, seqD_lst, insOf_ins, atI_0, atI_1, atI_2, atI_3, atI_4, ixN_0, ixN_1, ixN_2, ixN_3, ixN_4]
      refine ⟨by decide, ?_⟩
      refine lc_map (f := fun i : Nat => DV.D.int i) (g := fun j : Nat => oD (SP.free r j)) (List.range 5) 0 ?_ (by decide) [] rfl ?_
      · intro j hj
        try simp only [w_var, w_int, w_bl, w_non, w_str, w_gl, w_ty, w_bin, w_un, w_cmp, w_chain, w_and, w_or, w_not, w_ife, ev_nil, ev_cons, w_tup, w_lst, w_lstM, w_ix, part_nop, w_sl, w_bi, w_call, w_callS, w_meth, w_op, w_attr, w_app, w_idx, w_dzip, w_lc, w_lcM, w_tru, w_nott, w_andt, w_ort, i_itv, i_rng1, i_rng2, i_enm, b_nil, b_cons, s_exp, s_doc, s_pass, s_brk, s_cont, s_never, s_set, s_asg, g_var, g_sub, g_tup, gs_nil, gs_cons, s_par, s_ret, s_retF, s_retN, s_ite, s_for, for_nil, s_attr, w_prp, w_dun, w_fmt, w_fst, js_nil, js_cons, w_xisi, s_raise0, s_par3, p_add, p_addS, p_addT, p_addL, p_addB, p_sub, p_mul, p_mulL, p_fdiv, p_mod, p_pow, p_neg, p_eqI, p_neI, p_eqS, p_neS, p_eqB, p_lt, p_le, p_gt, p_ge, p_isN, p_isNN, p_isB, p_isNB, p_inT, p_ninT, p_ninK, p_ixL, p_ixT, p_ixK, p_ixG, p_ixR, p_put, p_slL, p_slT, p_lenL, p_lenT, p_lenS, p_intI, p_abs, p_max, p_min, p_divmod, p_tupT, p_tupL, p_tupR, p_all, p_any, p_repr, p_isi, p_app, p_idx, p_itL, p_itT, p_rng1, p_rng2, p_enmT, p_enmL, p_fmtS, p_fmtI, p_dlenI, p_dreprI, p_dboolI, p_dlenL, p_dlenT, p_dlenS, p_dreprL, p_dreprT, p_dreprS, p_dreprN, p_dreprB, p_dreprO, p_dboolN, p_dboolB, p_dboolL, p_strI, p_strS, oto_some, slTo_v, tst_bl, asInt_int, asBl_bl, asLst_l, asRef_r, asL_l, asStr_s, asExn_e, List.set_cons_zero, List.set_cons_succ, List.getElem?_cons_zero, List.getElem?_cons_succ, List.length_cons, List.length_nil, List.nil_append, List.cons_append, List.append_nil, Tgd.set, wipeD, List.getElem?_set_self, List.length_set, List.set_set, p_dzip, p_putA, asIns_i, tn_non, tn_bl, tn_int, tn_str, tn_tup, tn_lst, tn_dK, tn_ins, asTn_ty, asTn_glo, tru_bl, tru_non, tru_int, tru_lst, tru_tup, truP_bl, truP_non, truP_int, truP_lst, truP_tup, isNon_non, isNon_int, isNon_tup, isNon_lst, isNon_str, isNon_ins, seqD_tup, seqD_lst, insOf_ins, atI_0, atI_1, atI_2, atI_3, atI_4, ixN_0, ixN_1, ixN_2, ixN_3, ixN_4]
        refine ⟨fun z => ?_, fun z => ?_⟩
        · have z := of_decide_eq_true z
          refine ⟨?_, True.intro⟩
          unfold SP.free
          rw [if_pos (by omega)]
          rfl
        · have z := of_decide_eq_false z
          refine ⟨?_, True.intro⟩
          unfold SP.free
          rw [if_neg (by omega)]
          rfl
      · refine ⟨Nat.lt_of_lt_of_le (show (ps.map fun x => DV.D.ref (st.length + x)).length < 5 by rw [List.length_map]; exact lp) (by decide), ps ++ [r], ys, by rw [← e1]; simp, rfl, ?_, ?_⟩
        · rw [List.map_append, List.length_append, List.length_map, er]
          rfl
        · rw [List.map_append, ← List.append_assoc]
          rfl
  rintro acc st' ⟨ps, ys, e1, e2, rfl, rfl⟩
  cases ys with
  | cons r ys => cases e2
  | nil =>
    rw [List.append_nil] at e1
    subst e1
    rw [show (List.range 5).map (fun x => DV.D.ref (st.length + x)) = refs st.length from rfl]
    refine ⟨by decide, ?_⟩
    have t0 : TabS SP.free st.length (st ++ (List.range 5).map fun x => MO.lst (rowL SP.free x)) := fun x hx => by
      rw [List.getElem?_append_right (by omega), Nat.add_sub_cancel_left, List.getElem?_map, List.getElem?_range hx]
      rfl
    have f0 : FrA st (st ++ (List.range 5).map fun x => MO.lst (rowL SP.free x)) := .app _ _
    refine for_inv (fun ds ρ st' => ∃ (k : Nat) (u : SP.Tab) (x2 x3 x5 x6 x7 x8 x9 : Sl), k + ds.length = 5 ∧ ρ = [.v (.lst (fs.map fD)), .v (.lst nml), x2, x3, .v (.lst (refs st.length)), x5, x6, x7, x8, x9] ∧ TabS u st.length st' ∧ SP.Upto fs k u ∧ SP.Sound fs u ∧ FrA st st') ?_ ?_ _ _ _ ⟨0, SP.free, _, _, _, _, _, _, _, rfl, rfl, t0, SP.upto_free fs, SP.sound_free fs, f0⟩
    · rintro d ds ρ st1 ⟨kk, t, x2, x3, x5, x6, x7, x8, x9, e, rfl, h1, h2, h3, h4⟩
      try simp only [w_var, w_int, w_bl, w_non, w_str, w_gl, w_ty, w_bin, w_un, w_cmp, w_chain, w_and, w_or, w_not, w_ife, ev_nil, ev_cons, w_tup, w_lst, w_lstM, w_ix, part_nop, w_sl, w_bi, w_call, w_callS, w_meth, w_op, w_attr, w_app, w_idx, w_dzip, w_lc, w_lcM, w_tru, w_nott, w_andt, w_ort, i_itv, i_rng1, i_rng2, i_enm, b_nil, b_cons, s_exp, s_doc, s_pass, s_brk, s_cont, s_never, s_set, s_asg, g_var, g_sub, g_tup, gs_nil, gs_cons, s_par, s_ret, s_retF, s_retN, s_ite, s_for, for_nil, s_attr, w_prp, w_dun, w_fmt, w_fst, js_nil, js_cons, w_xisi, s_raise0, s_par3, p_add, p_addS, p_addT, p_addL, p_addB, p_sub, p_mul, p_mulL, p_fdiv, p_mod, p_pow, p_neg, p_eqI, p_neI, p_eqS, p_neS, p_eqB, p_lt, p_le, p_gt, p_ge, p_isN, p_isNN, p_isB, p_isNB, p_inT, p_ninT, p_ninK, p_ixL, p_ixT, p_ixK, p_ixG, p_ixR, p_put, p_slL, p_slT, p_lenL, p_lenT, p_lenS, p_intI, p_abs, p_max, p_min, p_divmod, p_tupT, p_tupL, p_tupR, p_all, p_any, p_repr, p_isi, p_app, p_idx, p_itL, p_itT, p_rng1, p_rng2, p_enmT, p_enmL, p_fmtS, p_fmtI, p_dlenI, p_dreprI, p_dboolI, p_dlenL, p_dlenT, p_dlenS, p_dreprL, p_dreprT, p_dreprS, p_dreprN, p_dreprB, p_dreprO, p_dboolN, p_dboolB, p_dboolL, p_strI, p_strS, oto_some, slTo_v, tst_bl, asInt_int, asBl_bl, asLst_l, asRef_r, asL_l, asStr_s, asExn_e, List.set_cons_zero, List.set_cons_succ, List.getElem?_cons_zero, List.getElem?_cons_succ, List.length_cons, List.length_nil, List.nil_append, List.cons_append, List.append_nil, List.getElem?_set_self, List.length_set, List.set_set, p_dzip, p_putA, asIns_i, tn_non, tn_bl, tn_int, tn_str, tn_tup, tn_lst, tn_dK, tn_ins, asTn_ty, asTn_glo, tru_bl, tru_non, tru_int, tru_lst, tru_tup, truP_bl, truP_non, truP_int, truP_lst, truP_tup, isNon_non, isNon_int, isNon_tup, isNon_lst, isNon_str, isNon_ins, seqD_tup, seqD_lst, insOf_ins, atI_0, atI_1, atI_2, atI_3, atI_4, ixN_0, ixN_1, ixN_2, ixN_3, ixN_4]
      refine for_inv (fun ds ρ st' => ∃ (gs hs : List Fc) (u : SP.Tab) (x2 x3 x5 x6 x7 x8 x9 : Sl), gs ++ hs = fs ∧ ds = hs.map fD ∧ ρ = [.v (.lst (fs.map fD)), .v (.lst nml), x2, x3, .v (.lst (refs st.length)), x5, x6, x7, x8, x9] ∧ TabS u st.length st' ∧ SP.Rd fs t gs u ∧ FrA st st') ?_ ?_ _ _ _ ⟨[], fs, t, _, _, _, _, _, _, _, rfl, rfl, rfl, h1, .start h3, h4⟩
      · rintro d2 ds2 ρ st2 ⟨gs, hs, u, x2, x3, x5, x6, x7, x8, x9, q, q2, rfl, g1, g2, g3⟩
        cases hs with
        | nil => cases q2
        | cons f hs =>
          simp only [List.map_cons, List.cons.injEq] at q2
          obtain ⟨rfl, rfl⟩ := q2
          have hm : f ∈ fs := by rw [← q]; simp
          obtain ⟨k1, k2, k3⟩ := hf f hm
          obtain ⟨i1, i2⟩ := ix_nm _ k1
          obtain ⟨j1, j2⟩ := ix_nm _ k2
          unfold fD
          try simp only [w_var, w_int, w_bl, w_non, w_str, w_gl, w_ty, w_bin, w_un, w_cmp, w_chain, w_and, w_or, w_not, w_ife, ev_nil, ev_cons, w_tup, w_lst, w_lstM, w_ix, part_nop, w_sl, w_bi, w_call, w_callS, w_meth, w_op, w_attr, w_app, w_idx, w_dzip, w_lc, w_lcM, w_tru, w_nott, w_andt, w_ort, i_itv, i_rng1, i_rng2, i_enm, b_nil, b_cons, s_exp, s_doc, s_pass, s_brk, s_cont, s_never, s_set, s_asg, g_var, g_sub, g_tup, gs_nil, gs_cons, s_par, s_ret, s_retF, s_retN, s_ite, s_for, for_nil, s_attr, w_prp, w_dun, w_fmt, w_fst, js_nil, js_cons, w_xisi, s_raise0, s_par3, p_add, p_addS, p_addT, p_addL, p_addB, p_sub, p_mul, p_mulL, p_fdiv, p_mod, p_pow, p_neg, p_eqI, p_neI, p_eqS, p_neS, p_eqB, p_lt, p_le, p_gt, p_ge, p_isN, p_isNN, p_isB, p_isNB, p_inT, p_ninT, p_ninK, p_ixL, p_ixT, p_ixK, p_ixG, p_ixR, p_put, p_slL, p_slT, p_lenL, p_lenT, p_lenS, p_intI, p_abs, p_max, p_min, p_divmod, p_tupT, p_tupL, p_tupR, p_all, p_any, p_repr, p_isi, p_app, p_idx, p_itL, p_itT, p_rng1, p_rng2, p_enmT, p_enmL, p_fmtS, p_fmtI, p_dlenI, p_dreprI, p_dboolI, p_dlenL, p_dlenT, p_dlenS, p_dreprL, p_dreprT, p_dreprS, p_dreprN, p_dreprB, p_dreprO, p_dboolN, p_dboolB, p_dboolL, p_strI, p_strS, oto_some, slTo_v, tst_bl, asInt_int, asBl_bl, asLst_l, asRef_r, asL_l, asStr_s, asExn_e, List.set_cons_zero, List.set_cons_succ, List.getElem?_cons_zero, List.getElem?_cons_succ, List.length_cons, List.length_nil, List.nil_append, List.cons_append, List.append_nil, i1, i2, j1, j2, List.getElem?_set_self, List.length_set, List.set_set, p_dzip, p_putA, asIns_i, tn_non, tn_bl, tn_int, tn_str, tn_tup, tn_lst, tn_dK, tn_ins, asTn_ty, asTn_glo, tru_bl, tru_non, tru_int, tru_lst, tru_tup, truP_bl, truP_non, truP_int, truP_lst, truP_tup, isNon_non, isNon_int, isNon_tup, isNon_lst, isNon_str, isNon_ins, seqD_tup, seqD_lst, insOf_ins, atI_0, atI_1, atI_2, atI_3, atI_4, ixN_0, ixN_1, ixN_2, ixN_3, ixN_4]
          refine ⟨True.intro, True.intro, by decide, ?_⟩
          rw [show rng 0 (Int.toNat 5) = (List.range 5).map (fun i : Nat => DV.D.int i) from rng0 5]
          refine for_inv (fun ds ρ st' => ∃ (ps ys : List Nat) (v : SP.Tab) (x7 x8 x9 : Sl), ps ++ ys = List.range 5 ∧ ds = ys.map (fun i : Nat => DV.D.int i) ∧ ρ = [.v (.lst (fs.map fD)), .v (.lst nml), .v (.int f.1), .v (.int f.2.1), .v (.lst (refs st.length)), x5, .v (fD f), x7, x8, x9] ∧ TabS v st.length st' ∧ SP.Rz fs t gs f ps v ∧ FrA st st') ?_ ?_ _ _ _ ⟨[], List.range 5, u, _, _, _, rfl, rfl, rfl, g1, .start g2, g3⟩
          · rintro d3 ds3 ρ st3 ⟨ps, ys, v, x7, x8, x9, p1, p2, rfl, l1, l2, l3⟩
            cases ys with
            | nil => cases p2
            | cons z ys =>
              simp only [List.map_cons, List.cons.injEq] at p2
              obtain ⟨rfl, rfl⟩ := p2
              have hz : z < 5 := List.mem_range.mp (by rw [← p1]; simp)
              have nx := l2.put (z := z) hm hi
              have ax := l1 _ k1
              have ay := l1 _ k2
              have en : oD none = DV.D.non := rfl
              have es : ∀ v, oD (some v) = DV.D.int v := fun _ => rfl
              unfold fD
              try simp only [w_var, w_int, w_bl, w_non, w_str, w_gl, w_ty, w_bin, w_un, w_cmp, w_chain, w_and, w_or, w_not, w_ife, ev_nil, ev_cons, w_tup, w_lst, w_lstM, w_ix, part_nop, w_sl, w_bi, w_call, w_callS, w_meth, w_op, w_attr, w_app, w_idx, w_dzip, w_lc, w_lcM, w_tru, w_nott, w_andt, w_ort, i_itv, i_rng1, i_rng2, i_enm, b_nil, b_cons, s_exp, s_doc, s_pass, s_brk, s_cont, s_never, s_set, s_asg, g_var, g_sub, g_tup, gs_nil, gs_cons, s_par, s_ret, s_retF, s_retN, s_ite, s_for, for_nil, s_attr, w_prp, w_dun, w_fmt, w_fst, js_nil, js_cons, w_xisi, s_raise0, s_par3, p_add, p_addS, p_addT, p_addL, p_addB, p_sub, p_mul, p_mulL, p_fdiv, p_mod, p_pow, p_neg, p_eqI, p_neI, p_eqS, p_neS, p_eqB, p_lt, p_le, p_gt, p_ge, p_isN, p_isNN, p_isB, p_isNB, p_inT, p_ninT, p_ninK, p_ixL, p_ixT, p_ixK, p_ixG, p_ixR, p_put, p_slL, p_slT, p_lenL, p_lenT, p_lenS, p_intI, p_abs, p_max, p_min, p_divmod, p_tupT, p_tupL, p_tupR, p_all, p_any, p_repr, p_isi, p_app, p_idx, p_itL, p_itT, p_rng1, p_rng2, p_enmT, p_enmL, p_fmtS, p_fmtI, p_dlenI, p_dreprI, p_dboolI, p_dlenL, p_dlenT, p_dlenS, p_dreprL, p_dreprT, p_dreprS, p_dreprN, p_dreprB, p_dreprO, p_dboolN, p_dboolB, p_dboolL, p_strI, p_strS, oto_some, slTo_v, tst_bl, asInt_int, asBl_bl, asLst_l, asRef_r, asL_l, asStr_s, asExn_e, List.set_cons_zero, List.set_cons_succ, List.getElem?_cons_zero, List.getElem?_cons_succ, List.length_cons, List.length_nil, List.nil_append, List.cons_append, List.append_nil, at_refs k1, at_refs k2, ax, ay, at_l hz, List.getElem?_set_self, List.length_set, List.set_set, p_dzip, p_putA, asIns_i, tn_non, tn_bl, tn_int, tn_str, tn_tup, tn_lst, tn_dK, tn_ins, asTn_ty, asTn_glo, tru_bl, tru_non, tru_int, tru_lst, tru_tup, truP_bl, truP_non, truP_int, truP_lst, truP_tup, isNon_non, isNon_int, isNon_tup, isNon_lst, isNon_str, isNon_ins, seqD_tup, seqD_lst, insOf_ins, atI_0, atI_1, atI_2, atI_3, atI_4, ixN_0, ixN_1, ixN_2, ixN_3, ixN_4]
              have same : SP.lb (v f.1 z) f.2.2 (v f.2.1 z) = v f.1 z → TabS (SP.put v f.1 f.2.1 f.2.2 z) st.length st3 := tabS_same l1
              have nu : ∀ w : Int, SP.lb (v f.1 z) f.2.2 (v f.2.1 z) = some w → TabS (SP.put v f.1 f.2.1 f.2.2 z) st.length (st3.set (st.length + f.1) (.lst ((rowL v f.1).set z (.int w)))) := fun w e => by
                rw [← es, ← e, show (rowL v f.1).set z (oD (SP.lb (v f.1 z) f.2.2 (v f.2.1 z))) = rowL (SP.put v f.1 f.2.1 f.2.2 z) f.1 from row_set (r := 0) hz]
                exact tabS_put l1 k1 hz
              cases e2 : v f.2.1 z with
              | none =>
                try simp only [w_var, w_int, w_bl, w_non, w_str, w_gl, w_ty, w_bin, w_un, w_cmp, w_chain, w_and, w_or, w_not, w_ife, ev_nil, ev_cons, w_tup, w_lst, w_lstM, w_ix, part_nop, w_sl, w_bi, w_call, w_callS, w_meth, w_op, w_attr, w_app, w_idx, w_dzip, w_lc, w_lcM, w_tru, w_nott, w_andt, w_ort, i_itv, i_rng1, i_rng2, i_enm, b_nil, b_cons, s_exp, s_doc, s_pass, s_brk, s_cont, s_never, s_set, s_asg, g_var, g_sub, g_tup, gs_nil, gs_cons, s_par, s_ret, s_retF, s_retN, s_ite, s_for, for_nil, s_attr, w_prp, w_dun, w_fmt, w_fst, js_nil, js_cons, w_xisi, s_raise0, s_par3, p_add, p_addS, p_addT, p_addL, p_addB, p_sub, p_mul, p_mulL, p_fdiv, p_mod, p_pow, p_neg, p_eqI, p_neI, p_eqS, p_neS, p_eqB, p_lt, p_le, p_gt, p_ge, p_isN, p_isNN, p_isB, p_isNB, p_inT, p_ninT, p_ninK, p_ixL, p_ixT, p_ixK, p_ixG, p_ixR, p_put, p_slL, p_slT, p_lenL, p_lenT, p_lenS, p_intI, p_abs, p_max, p_min, p_divmod, p_tupT, p_tupL, p_tupR, p_all, p_any, p_repr, p_isi, p_app, p_idx, p_itL, p_itT, p_rng1, p_rng2, p_enmT, p_enmL, p_fmtS, p_fmtI, p_dlenI, p_dreprI, p_dboolI, p_dlenL, p_dlenT, p_dlenS, p_dreprL, p_dreprT, p_dreprS, p_dreprN, p_dreprB, p_dreprO, p_dboolN, p_dboolB, p_dboolL, p_strI, p_strS, oto_some, slTo_v, tst_bl, asInt_int, asBl_bl, asLst_l, asRef_r, asL_l, asStr_s, asExn_e, List.set_cons_zero, List.set_cons_succ, List.getElem?_cons_zero, List.getElem?_cons_succ, List.length_cons, List.length_nil, List.nil_append, List.cons_append, List.append_nil, en, List.getElem?_set_self, List.length_set, List.set_set, p_dzip, p_putA, asIns_i, tn_non, tn_bl, tn_int, tn_str, tn_tup, tn_lst, tn_dK, tn_ins, asTn_ty, asTn_glo, tru_bl, tru_non, tru_int, tru_lst, tru_tup, truP_bl, truP_non, truP_int, truP_lst, truP_tup, isNon_non, isNon_int, isNon_tup, isNon_lst, isNon_str, isNon_ins, seqD_tup, seqD_lst, insOf_ins, atI_0, atI_1, atI_2, atI_3, atI_4, ixN_0, ixN_1, ixN_2, ixN_3, ixN_4]
                exact ⟨fun z => by (cases z), fun _ => ⟨fun z => by (cases z), fun _ => ⟨ps ++ [z], ys, _, _, _, _, by rw [← p1]; simp, rfl, rfl, same (by rw [e2]; rfl), nx, l3⟩⟩⟩
              | some b =>
                cases e1 : v f.1 z with
                | none =>
                  try simp only [w_var, w_int, w_bl, w_non, w_str, w_gl, w_ty, w_bin, w_un, w_cmp, w_chain, w_and, w_or, w_not, w_ife, ev_nil, ev_cons, w_tup, w_lst, w_lstM, w_ix, part_nop, w_sl, w_bi, w_call, w_callS, w_meth, w_op, w_attr, w_app, w_idx, w_dzip, w_lc, w_lcM, w_tru, w_nott, w_andt, w_ort, i_itv, i_rng1, i_rng2, i_enm, b_nil, b_cons, s_exp, s_doc, s_pass, s_brk, s_cont, s_never, s_set, s_asg, g_var, g_sub, g_tup, gs_nil, gs_cons, s_par, s_ret, s_retF, s_retN, s_ite, s_for, for_nil, s_attr, w_prp, w_dun, w_fmt, w_fst, js_nil, js_cons, w_xisi, s_raise0, s_par3, p_add, p_addS, p_addT, p_addL, p_addB, p_sub, p_mul, p_mulL, p_fdiv, p_mod, p_pow, p_neg, p_eqI, p_neI, p_eqS, p_neS, p_eqB, p_lt, p_le, p_gt, p_ge, p_isN, p_isNN, p_isB, p_isNB, p_inT, p_ninT, p_ninK, p_ixL, p_ixT, p_ixK, p_ixG, p_ixR, p_put, p_slL, p_slT, p_lenL, p_lenT, p_lenS, p_intI, p_abs, p_max, p_min, p_divmod, p_tupT, p_tupL, p_tupR, p_all, p_any, p_repr, p_isi, p_app, p_idx, p_itL, p_itT, p_rng1, p_rng2, p_enmT, p_enmL, p_fmtS, p_fmtI, p_dlenI, p_dreprI, p_dboolI, p_dlenL, p_dlenT, p_dlenS, p_dreprL, p_dreprT, p_dreprS, p_dreprN, p_dreprB, p_dreprO, p_dboolN, p_dboolB, p_dboolL, p_strI, p_strS, oto_some, slTo_v, tst_bl, asInt_int, asBl_bl, asLst_l, asRef_r, asL_l, asStr_s, asExn_e, List.set_cons_zero, List.set_cons_succ, List.getElem?_cons_zero, List.getElem?_cons_succ, List.length_cons, List.length_nil, List.nil_append, List.cons_append, List.append_nil, en, es, at_refs k1, ax, ixN_l hz, List.getElem?_set_self, List.length_set, List.set_set, p_dzip, p_putA, asIns_i, tn_non, tn_bl, tn_int, tn_str, tn_tup, tn_lst, tn_dK, tn_ins, asTn_ty, asTn_glo, tru_bl, tru_non, tru_int, tru_lst, tru_tup, truP_bl, truP_non, truP_int, truP_lst, truP_tup, isNon_non, isNon_int, isNon_tup, isNon_lst, isNon_str, isNon_ins, seqD_tup, seqD_lst, insOf_ins, atI_0, atI_1, atI_2, atI_3, atI_4, ixN_0, ixN_1, ixN_2, ixN_3, ixN_4]
                  exact ⟨fun _ => ⟨fun _ => ⟨fun _ => ⟨ps ++ [z], ys, _, _, _, _, by rw [← p1]; simp, rfl, rfl, nu _ (by rw [e1, e2]; rfl), nx, l3.set (by omega)⟩, fun z => by (cases z)⟩, fun z => by (cases z)⟩, fun z => by (cases z)⟩
                | some a =>
                  try simp only [w_var, w_int, w_bl, w_non, w_str, w_gl, w_ty, w_bin, w_un, w_cmp, w_chain, w_and, w_or, w_not, w_ife, ev_nil, ev_cons, w_tup, w_lst, w_lstM, w_ix, part_nop, w_sl, w_bi, w_call, w_callS, w_meth, w_op, w_attr, w_app, w_idx, w_dzip, w_lc, w_lcM, w_tru, w_nott, w_andt, w_ort, i_itv, i_rng1, i_rng2, i_enm, b_nil, b_cons, s_exp, s_doc, s_pass, s_brk, s_cont, s_never, s_set, s_asg, g_var, g_sub, g_tup, gs_nil, gs_cons, s_par, s_ret, s_retF, s_retN, s_ite, s_for, for_nil, s_attr, w_prp, w_dun, w_fmt, w_fst, js_nil, js_cons, w_xisi, s_raise0, s_par3, p_add, p_addS, p_addT, p_addL, p_addB, p_sub, p_mul, p_mulL, p_fdiv, p_mod, p_pow, p_neg, p_eqI, p_neI, p_eqS, p_neS, p_eqB, p_lt, p_le, p_gt, p_ge, p_isN, p_isNN, p_isB, p_isNB, p_inT, p_ninT, p_ninK, p_ixL, p_ixT, p_ixK, p_ixG, p_ixR, p_put, p_slL, p_slT, p_lenL, p_lenT, p_lenS, p_intI, p_abs, p_max, p_min, p_divmod, p_tupT, p_tupL, p_tupR, p_all, p_any, p_repr, p_isi, p_app, p_idx, p_itL, p_itT, p_rng1, p_rng2, p_enmT, p_enmL, p_fmtS, p_fmtI, p_dlenI, p_dreprI, p_dboolI, p_dlenL, p_dlenT, p_dlenS, p_dreprL, p_dreprT, p_dreprS, p_dreprN, p_dreprB, p_dreprO, p_dboolN, p_dboolB, p_dboolL, p_strI, p_strS, oto_some, slTo_v, tst_bl, asInt_int, asBl_bl, asLst_l, asRef_r, asL_l, asStr_s, asExn_e, List.set_cons_zero, List.set_cons_succ, List.getElem?_cons_zero, List.getElem?_cons_succ, List.length_cons, List.length_nil, List.nil_append, List.cons_append, List.append_nil, en, es, at_refs k1, ax, ixN_l hz, List.getElem?_set_self, List.length_set, List.set_set, p_dzip, p_putA, asIns_i, tn_non, tn_bl, tn_int, tn_str, tn_tup, tn_lst, tn_dK, tn_ins, asTn_ty, asTn_glo, tru_bl, tru_non, tru_int, tru_lst, tru_tup, truP_bl, truP_non, truP_int, truP_lst, truP_tup, isNon_non, isNon_int, isNon_tup, isNon_lst, isNon_str, isNon_ins, seqD_tup, seqD_lst, insOf_ins, atI_0, atI_1, atI_2, atI_3, atI_4, ixN_0, ixN_1, ixN_2, ixN_3, ixN_4]
                  refine ⟨fun _ => ⟨fun z => by (cases z), fun _ => ⟨fun w => ⟨ps ++ [z], ys, _, _, _, _, by rw [← p1]; simp, rfl, rfl, nu _ ?_, nx, l3.set (by omega)⟩, fun w => ⟨ps ++ [z], ys, _, _, _, _, by rw [← p1]; simp, rfl, rfl, same ?_, nx, l3⟩⟩⟩, fun z => by (cases z)⟩
                  · rw [e1, e2]
                    have := of_decide_eq_true w
                    unfold SP.lb
                    dsimp only
                    rw [if_neg (by omega)]
                  · rw [e1, e2]
                    have := of_decide_eq_false w
                    unfold SP.lb
                    dsimp only
                    rw [if_pos (by omega)]
          · rintro ρ st3 ⟨ps, ys, v, x7, x8, x9, p1, p2, rfl, l1, l2, l3⟩
            cases ys with
            | cons r ys => cases p2
            | nil =>
              rw [List.append_nil] at p1
              subst p1
              try simp only [w_var, w_int, w_bl, w_non, w_str, w_gl, w_ty, w_bin, w_un, w_cmp, w_chain, w_and, w_or, w_not, w_ife, ev_nil, ev_cons, w_tup, w_lst, w_lstM, w_ix, part_nop, w_sl, w_bi, w_call, w_callS, w_meth, w_op, w_attr, w_app, w_idx, w_dzip, w_lc, w_lcM, w_tru, w_nott, w_andt, w_ort, i_itv, i_rng1, i_rng2, i_enm, b_nil, b_cons, s_exp, s_doc, s_pass, s_brk, s_cont, s_never, s_set, s_asg, g_var, g_sub, g_tup, gs_nil, gs_cons, s_par, s_ret, s_retF, s_retN, s_ite, s_for, for_nil, s_attr, w_prp, w_dun, w_fmt, w_fst, js_nil, js_cons, w_xisi, s_raise0, s_par3, p_add, p_addS, p_addT, p_addL, p_addB, p_sub, p_mul, p_mulL, p_fdiv, p_mod, p_pow, p_neg, p_eqI, p_neI, p_eqS, p_neS, p_eqB, p_lt, p_le, p_gt, p_ge, p_isN, p_isNN, p_isB, p_isNB, p_inT, p_ninT, p_ninK, p_ixL, p_ixT, p_ixK, p_ixG, p_ixR, p_put, p_slL, p_slT, p_lenL, p_lenT, p_lenS, p_intI, p_abs, p_max, p_min, p_divmod, p_tupT, p_tupL, p_tupR, p_all, p_any, p_repr, p_isi, p_app, p_idx, p_itL, p_itT, p_rng1, p_rng2, p_enmT, p_enmL, p_fmtS, p_fmtI, p_dlenI, p_dreprI, p_dboolI, p_dlenL, p_dlenT, p_dlenS, p_dreprL, p_dreprT, p_dreprS, p_dreprN, p_dreprB, p_dreprO, p_dboolN, p_dboolB, p_dboolL, p_strI, p_strS, oto_some, slTo_v, tst_bl, asInt_int, asBl_bl, asLst_l, asRef_r, asL_l, asStr_s, asExn_e, List.set_cons_zero, List.set_cons_succ, List.getElem?_cons_zero, List.getElem?_cons_succ, List.length_cons, List.length_nil, List.nil_append, List.cons_append, List.append_nil, List.getElem?_set_self, List.length_set, List.set_set, p_dzip, p_putA, asIns_i, tn_non, tn_bl, tn_int, tn_str, tn_tup, tn_lst, tn_dK, tn_ins, asTn_ty, asTn_glo, tru_bl, tru_non, tru_int, tru_lst, tru_tup, truP_bl, truP_non, truP_int, truP_lst, truP_tup, isNon_non, isNon_int, isNon_tup, isNon_lst, isNon_str, isNon_ins, seqD_tup, seqD_lst, insOf_ins, atI_0, atI_1, atI_2, atI_3, atI_4, ixN_0, ixN_1, ixN_2, ixN_3, ixN_4]
              exact ⟨gs ++ [f], hs, v, _, _, _, _, _, _, _, by rw [← q]; simp, rfl, rfl, l1, l2.fin, l3⟩
      · rintro ρ st2 ⟨gs, hs, u, x2, x3, x5, x6, x7, x8, x9, q, q2, rfl, g1, g2, g3⟩
        cases hs with
        | cons r ys => cases q2
        | nil =>
          rw [List.append_nil] at q
          subst q
          try simp only [w_var, w_int, w_bl, w_non, w_str, w_gl, w_ty, w_bin, w_un, w_cmp, w_chain, w_and, w_or, w_not, w_ife, ev_nil, ev_cons, w_tup, w_lst, w_lstM, w_ix, part_nop, w_sl, w_bi, w_call, w_callS, w_meth, w_op, w_attr, w_app, w_idx, w_dzip, w_lc, w_lcM, w_tru, w_nott, w_andt, w_ort, i_itv, i_rng1, i_rng2, i_enm, b_nil, b_cons, s_exp, s_doc, s_pass, s_brk, s_cont, s_never, s_set, s_asg, g_var, g_sub, g_tup, gs_nil, gs_cons, s_par, s_ret, s_retF, s_retN, s_ite, s_for, for_nil, s_attr, w_prp, w_dun, w_fmt, w_fst, js_nil, js_cons, w_xisi, s_raise0, s_par3, p_add, p_addS, p_addT, p_addL, p_addB, p_sub, p_mul, p_mulL, p_fdiv, p_mod, p_pow, p_neg, p_eqI, p_neI, p_eqS, p_neS, p_eqB, p_lt, p_le, p_gt, p_ge, p_isN, p_isNN, p_isB, p_isNB, p_inT, p_ninT, p_ninK, p_ixL, p_ixT, p_ixK, p_ixG, p_ixR, p_put, p_slL, p_slT, p_lenL, p_lenT, p_lenS, p_intI, p_abs, p_max, p_min, p_divmod, p_tupT, p_tupL, p_tupR, p_all, p_any, p_repr, p_isi, p_app, p_idx, p_itL, p_itT, p_rng1, p_rng2, p_enmT, p_enmL, p_fmtS, p_fmtI, p_dlenI, p_dreprI, p_dboolI, p_dlenL, p_dlenT, p_dlenS, p_dreprL, p_dreprT, p_dreprS, p_dreprN, p_dreprB, p_dreprO, p_dboolN, p_dboolB, p_dboolL, p_strI, p_strS, oto_some, slTo_v, tst_bl, asInt_int, asBl_bl, asLst_l, asRef_r, asL_l, asStr_s, asExn_e, List.set_cons_zero, List.set_cons_succ, List.getElem?_cons_zero, List.getElem?_cons_succ, List.length_cons, List.length_nil, List.nil_append, List.cons_append, List.append_nil, List.getElem?_set_self, List.length_set, List.set_set, p_dzip, p_putA, asIns_i, tn_non, tn_bl, tn_int, tn_str, tn_tup, tn_lst, tn_dK, tn_ins, asTn_ty, asTn_glo, tru_bl, tru_non, tru_int, tru_lst, tru_tup, truP_bl, truP_non, truP_int, truP_lst, truP_tup, isNon_non, isNon_int, isNon_tup, isNon_lst, isNon_str, isNon_ins, seqD_tup, seqD_lst, insOf_ins, atI_0, atI_1, atI_2, atI_3, atI_4, ixN_0, ixN_1, ixN_2, ixN_3, ixN_4]
          have e' : kk + (ds.length + 1) = 5 := e
          obtain ⟨r1, r2⟩ := g2.fin hi h2
          exact ⟨kk + 1, u, _, _, _, _, _, _, _, by omega, rfl, g1, r1, r2, g3⟩
    · rintro ρ st1 ⟨kk, t, x2, x3, x5, x6, x7, x8, x9, e, rfl, h1, h2, h3, h4⟩
      try simp only [w_var, w_int, w_bl, w_non, w_str, w_gl, w_ty, w_bin, w_un, w_cmp, w_chain, w_and, w_or, w_not, w_ife, ev_nil, ev_cons, w_tup, w_lst, w_lstM, w_ix, part_nop, w_sl, w_bi, w_call, w_callS, w_meth, w_op, w_attr, w_app, w_idx, w_dzip, w_lc, w_lcM, w_tru, w_nott, w_andt, w_ort, i_itv, i_rng1, i_rng2, i_enm, b_nil, b_cons, s_exp, s_doc, s_pass, s_brk, s_cont, s_never, s_set, s_asg, g_var, g_sub, g_tup, gs_nil, gs_cons, s_par, s_ret, s_retF, s_retN, s_ite, s_for, for_nil, s_attr, w_prp, w_dun, w_fmt, w_fst, js_nil, js_cons, w_xisi, s_raise0, s_par3, p_add, p_addS, p_addT, p_addL, p_addB, p_sub, p_mul, p_mulL, p_fdiv, p_mod, p_pow, p_neg, p_eqI, p_neI, p_eqS, p_neS, p_eqB, p_lt, p_le, p_gt, p_ge, p_isN, p_isNN, p_isB, p_isNB, p_inT, p_ninT, p_ninK, p_ixL, p_ixT, p_ixK, p_ixG, p_ixR, p_put, p_slL, p_slT, p_lenL, p_lenT, p_lenS, p_intI, p_abs, p_max, p_min, p_divmod, p_tupT, p_tupL, p_tupR, p_all, p_any, p_repr, p_isi, p_app, p_idx, p_itL, p_itT, p_rng1, p_rng2, p_enmT, p_enmL, p_fmtS, p_fmtI, p_dlenI, p_dreprI, p_dboolI, p_dlenL, p_dlenT, p_dlenS, p_dreprL, p_dreprT, p_dreprS, p_dreprN, p_dreprB, p_dreprO, p_dboolN, p_dboolB, p_dboolL, p_strI, p_strS, oto_some, slTo_v, tst_bl, asInt_int, asBl_bl, asLst_l, asRef_r, asL_l, asStr_s, asExn_e, List.set_cons_zero, List.set_cons_succ, List.getElem?_cons_zero, List.getElem?_cons_succ, List.length_cons, List.length_nil, List.nil_append, List.cons_append, List.append_nil, List.getElem?_set_self, List.length_set, List.set_set, p_dzip, p_putA, asIns_i, tn_non, tn_bl, tn_int, tn_str, tn_tup, tn_lst, tn_dK, tn_ins, asTn_ty, asTn_glo, tru_bl, tru_non, tru_int, tru_lst, tru_tup, truP_bl, truP_non, truP_int, truP_lst, truP_tup, isNon_non, isNon_int, isNon_tup, isNon_lst, isNon_str, isNon_ins, seqD_tup, seqD_lst, insOf_ins, atI_0, atI_1, atI_2, atI_3, atI_4, ixN_0, ixN_1, ixN_2, ixN_3, ixN_4]
      have e' : kk = 5 := by simpa using e
      exact ⟨⟨_, t, rfl, Nat.le_refl _, h1, h2.mono (by omega), h3⟩, h4⟩
end
end K22

namespace K22
open PySem PySem.Spec PyProof.Rows L2 DV
section
variable {k : Nat} {st : Store} {Q : DV.D → Store → Prop} {E : Ex} {a b c d : DV.D}
theorem e29 : (S (k + 1) 29 [] [a, b, c] st).tx E Q = (denB lw.tb (S k) is29 [.v a, .v b, .v c, .un] st).to (endPoE E Q) := enter (d := d29) (xs := [a, b, c]) rfl rfl
theorem e29k : (S (k + 1) 29 ["other_point", "point"] [a, b, c] st).tx E Q = (denB lw.tb (S k) is29 [.v a, .v c, .v b, .un] st).to (endPoE E Q) := enter (d := d29) (xs := [a, c, b]) rfl rfl
theorem lookT (t u : DV.D) : List.lookup ("table" : Str) [(("facts" : Str), t), ("table", u)] = some u := by rfl
theorem me_b (fs : List Fc) : methN ((lw.tb.meths.lookup ("bound" : Str)).getD []) "bound" (insF fs) st = some 29 := by kernel_rfl
theorem bound0 {fs : List Fc} {x y : Nat} (hx : x < 5) (hy : y < 5) (h1 : ∀ t, tabF fs = some t → Q (oD (t x y)) st) (h2 : tabF fs = none → E "Impossible" [] st) :
    (denB lw.tb (S (k + 1)) is29 [.v (insF fs), .v (.str (nm x)), .v (.str (nm y)), .un] st).to (endPoE E Q) := by
  unfold is29
  try simp only [w_var, w_int, w_bl, w_non, w_str, w_gl, w_ty, w_bin, w_un, w_cmp, w_chain, w_and, w_or, w_not, w_ife, ev_nil, ev_cons, w_tup, w_lst, w_lstM, w_ix, part_nop, w_sl, w_bi, w_call, w_callS, w_meth, w_op, w_attr, w_app, w_idx, w_dzip, w_lc, w_lcM, w_tru, w_nott, w_andt, w_ort, i_itv, i_rng1, i_rng2, i_enm, b_nil, b_cons, s_exp, s_doc, s_pass, s_brk, s_cont, s_never, s_set, s_asg, g_var, g_sub, g_tup, gs_nil, gs_cons, s_par, s_ret, s_retF, s_retN, s_ite, s_for, for_nil, s_attr, w_prp, w_dun, w_fmt, w_fst, js_nil, js_cons, w_xisi, s_raise0, s_par3, p_add, p_addS, p_addT, p_addL, p_addB, p_sub, p_mul, p_mulL, p_fdiv, p_mod, p_pow, p_neg, p_eqI, p_neI, p_eqS, p_neS, p_eqB, p_lt, p_le, p_gt, p_ge, p_isN, p_isNN, p_isB, p_isNB, p_inT, p_ninT, p_ninK, p_ixL, p_ixT, p_ixK, p_ixG, p_ixR, p_put, p_slL, p_slT, p_lenL, p_lenT, p_lenS, p_intI, p_abs, p_max, p_min, p_divmod, p_tupT, p_tupL, p_tupR, p_all, p_any, p_repr, p_isi, p_app, p_idx, p_itL, p_itT, p_rng1, p_rng2, p_enmT, p_enmL, p_fmtS, p_fmtI, p_dlenI, p_dreprI, p_dboolI, p_dlenL, p_dlenT, p_dlenS, p_dreprL, p_dreprT, p_dreprS, p_dreprN, p_dreprB, p_dreprO, p_dboolN, p_dboolB, p_dboolL, p_strI, p_strS, oto_some, slTo_v, tst_bl, asInt_int, asBl_bl, asLst_l, asRef_r, asL_l, asStr_s, asExn_e, List.set_cons_zero, List.set_cons_succ, List.getElem?_cons_zero, List.getElem?_cons_succ, List.length_cons, List.length_nil, List.nil_append, List.cons_append, List.append_nil, for_cons, gl_pts, List.getElem?_set_self, List.length_set, List.set_set, p_dzip, p_putA, asIns_i, tn_non, tn_bl, tn_int, tn_str, tn_tup, tn_lst, tn_dK, tn_ins, asTn_ty, asTn_glo, tru_bl, tru_non, tru_int, tru_lst, tru_tup, truP_bl, truP_non, truP_int, truP_lst, truP_tup, isNon_non, isNon_int, isNon_tup, isNon_lst, isNon_str, isNon_ins, seqD_tup, seqD_lst, insOf_ins, atI_0, atI_1, atI_2, atI_3, atI_4, ixN_0, ixN_1, ixN_2, ixN_3, ixN_4]
  refine ⟨by decide, True.intro, R.of_to (isWord hx) ?_⟩
  rintro _ st1 ⟨rfl, e1⟩
  have e1 := e1.symm
  subst e1
  try simp only [w_var, w_int, w_bl, w_non, w_str, w_gl, w_ty, w_bin, w_un, w_cmp, w_chain, w_and, w_or, w_not, w_ife, ev_nil, ev_cons, w_tup, w_lst, w_lstM, w_ix, part_nop, w_sl, w_bi, w_call, w_callS, w_meth, w_op, w_attr, w_app, w_idx, w_dzip, w_lc, w_lcM, w_tru, w_nott, w_andt, w_ort, i_itv, i_rng1, i_rng2, i_enm, b_nil, b_cons, s_exp, s_doc, s_pass, s_brk, s_cont, s_never, s_set, s_asg, g_var, g_sub, g_tup, gs_nil, gs_cons, s_par, s_ret, s_retF, s_retN, s_ite, s_for, for_nil, s_attr, w_prp, w_dun, w_fmt, w_fst, js_nil, js_cons, w_xisi, s_raise0, s_par3, p_add, p_addS, p_addT, p_addL, p_addB, p_sub, p_mul, p_mulL, p_fdiv, p_mod, p_pow, p_neg, p_eqI, p_neI, p_eqS, p_neS, p_eqB, p_lt, p_le, p_gt, p_ge, p_isN, p_isNN, p_isB, p_isNB, p_inT, p_ninT, p_ninK, p_ixL, p_ixT, p_ixK, p_ixG, p_ixR, p_put, p_slL, p_slT, p_lenL, p_lenT, p_lenS, p_intI, p_abs, p_max, p_min, p_divmod, p_tupT, p_tupL, p_tupR, p_all, p_any, p_repr, p_isi, p_app, p_idx, p_itL, p_itT, p_rng1, p_rng2, p_enmT, p_enmL, p_fmtS, p_fmtI, p_dlenI, p_dreprI, p_dboolI, p_dlenL, p_dlenT, p_dlenS, p_dreprL, p_dreprT, p_dreprS, p_dreprN, p_dreprB, p_dreprO, p_dboolN, p_dboolB, p_dboolL, p_strI, p_strS, oto_some, slTo_v, tst_bl, asInt_int, asBl_bl, asLst_l, asRef_r, asL_l, asStr_s, asExn_e, List.set_cons_zero, List.set_cons_succ, List.getElem?_cons_zero, List.getElem?_cons_succ, List.length_cons, List.length_nil, List.nil_append, List.cons_append, List.append_nil, for_cons, gl_pts, List.getElem?_set_self, List.length_set, List.set_set, p_dzip, p_putA, asIns_i, tn_non, tn_bl, tn_int, tn_str, tn_tup, tn_lst, tn_dK, tn_ins, asTn_ty, asTn_glo, tru_bl, tru_non, tru_int, tru_lst, tru_tup, truP_bl, truP_non, truP_int, truP_lst, truP_tup, isNon_non, isNon_int, isNon_tup, isNon_lst, isNon_str, isNon_ins, seqD_tup, seqD_lst, insOf_ins, atI_0, atI_1, atI_2, atI_3, atI_4, ixN_0, ixN_1, ixN_2, ixN_3, ixN_4]
  refine ⟨fun z => by (cases z), fun _ => ⟨True.intro, R.of_to (isWord hy) ?_⟩⟩
  rintro _ st1 ⟨rfl, e1⟩
  have e1 := e1.symm
  subst e1
  unfold insF
  try simp only [w_var, w_int, w_bl, w_non, w_str, w_gl, w_ty, w_bin, w_un, w_cmp, w_chain, w_and, w_or, w_not, w_ife, ev_nil, ev_cons, w_tup, w_lst, w_lstM, w_ix, part_nop, w_sl, w_bi, w_call, w_callS, w_meth, w_op, w_attr, w_app, w_idx, w_dzip, w_lc, w_lcM, w_tru, w_nott, w_andt, w_ort, i_itv, i_rng1, i_rng2, i_enm, b_nil, b_cons, s_exp, s_doc, s_pass, s_brk, s_cont, s_never, s_set, s_asg, g_var, g_sub, g_tup, gs_nil, gs_cons, s_par, s_ret, s_retF, s_retN, s_ite, s_for, for_nil, s_attr, w_prp, w_dun, w_fmt, w_fst, js_nil, js_cons, w_xisi, s_raise0, s_par3, p_add, p_addS, p_addT, p_addL, p_addB, p_sub, p_mul, p_mulL, p_fdiv, p_mod, p_pow, p_neg, p_eqI, p_neI, p_eqS, p_neS, p_eqB, p_lt, p_le, p_gt, p_ge, p_isN, p_isNN, p_isB, p_isNB, p_inT, p_ninT, p_ninK, p_ixL, p_ixT, p_ixK, p_ixG, p_ixR, p_put, p_slL, p_slT, p_lenL, p_lenT, p_lenS, p_intI, p_abs, p_max, p_min, p_divmod, p_tupT, p_tupL, p_tupR, p_all, p_any, p_repr, p_isi, p_app, p_idx, p_itL, p_itT, p_rng1, p_rng2, p_enmT, p_enmL, p_fmtS, p_fmtI, p_dlenI, p_dreprI, p_dboolI, p_dlenL, p_dlenT, p_dlenS, p_dreprL, p_dreprT, p_dreprS, p_dreprN, p_dreprB, p_dreprO, p_dboolN, p_dboolB, p_dboolL, p_strI, p_strS, oto_some, slTo_v, tst_bl, asInt_int, asBl_bl, asLst_l, asRef_r, asL_l, asStr_s, asExn_e, List.set_cons_zero, List.set_cons_succ, List.getElem?_cons_zero, List.getElem?_cons_succ, List.length_cons, List.length_nil, List.nil_append, List.cons_append, List.append_nil, for_cons, cls_f, lookT, gl_num, kd_num x hx, kd_num y hy, List.getElem?_set_self, List.length_set, List.set_set, p_dzip, p_putA, asIns_i, tn_non, tn_bl, tn_int, tn_str, tn_tup, tn_lst, tn_dK, tn_ins, asTn_ty, asTn_glo, tru_bl, tru_non, tru_int, tru_lst, tru_tup, truP_bl, truP_non, truP_int, truP_lst, truP_tup, isNon_non, isNon_int, isNon_tup, isNon_lst, isNon_str, isNon_ins, seqD_tup, seqD_lst, insOf_ins, atI_0, atI_1, atI_2, atI_3, atI_4, ixN_0, ixN_1, ixN_2, ixN_3, ixN_4]
  refine ⟨fun z => by (cases z), fun _ => ?_⟩
  cases e : tabF fs with
  | none =>
    rw [show stepD none = DV.D.non from rfl]
    try simp only [w_var, w_int, w_bl, w_non, w_str, w_gl, w_ty, w_bin, w_un, w_cmp, w_chain, w_and, w_or, w_not, w_ife, ev_nil, ev_cons, w_tup, w_lst, w_lstM, w_ix, part_nop, w_sl, w_bi, w_call, w_callS, w_meth, w_op, w_attr, w_app, w_idx, w_dzip, w_lc, w_lcM, w_tru, w_nott, w_andt, w_ort, i_itv, i_rng1, i_rng2, i_enm, b_nil, b_cons, s_exp, s_doc, s_pass, s_brk, s_cont, s_never, s_set, s_asg, g_var, g_sub, g_tup, gs_nil, gs_cons, s_par, s_ret, s_retF, s_retN, s_ite, s_for, for_nil, s_attr, w_prp, w_dun, w_fmt, w_fst, js_nil, js_cons, w_xisi, s_raise0, s_par3, p_add, p_addS, p_addT, p_addL, p_addB, p_sub, p_mul, p_mulL, p_fdiv, p_mod, p_pow, p_neg, p_eqI, p_neI, p_eqS, p_neS, p_eqB, p_lt, p_le, p_gt, p_ge, p_isN, p_isNN, p_isB, p_isNB, p_inT, p_ninT, p_ninK, p_ixL, p_ixT, p_ixK, p_ixG, p_ixR, p_put, p_slL, p_slT, p_lenL, p_lenT, p_lenS, p_intI, p_abs, p_max, p_min, p_divmod, p_tupT, p_tupL, p_tupR, p_all, p_any, p_repr, p_isi, p_app, p_idx, p_itL, p_itT, p_rng1, p_rng2, p_enmT, p_enmL, p_fmtS, p_fmtI, p_dlenI, p_dreprI, p_dboolI, p_dlenL, p_dlenT, p_dlenS, p_dreprL, p_dreprT, p_dreprS, p_dreprN, p_dreprB, p_dreprO, p_dboolN, p_dboolB, p_dboolL, p_strI, p_strS, oto_some, slTo_v, tst_bl, asInt_int, asBl_bl, asLst_l, asRef_r, asL_l, asStr_s, asExn_e, List.set_cons_zero, List.set_cons_succ, List.getElem?_cons_zero, List.getElem?_cons_succ, List.length_cons, List.length_nil, List.nil_append, List.cons_append, List.append_nil, List.getElem?_set_self, List.length_set, List.set_set, p_dzip, p_putA, asIns_i, tn_non, tn_bl, tn_int, tn_str, tn_tup, tn_lst, tn_dK, tn_ins, asTn_ty, asTn_glo, tru_bl, tru_non, tru_int, tru_lst, tru_tup, truP_bl, truP_non, truP_int, truP_lst, truP_tup, isNon_non, isNon_int, isNon_tup, isNon_lst, isNon_str, isNon_ins, seqD_tup, seqD_lst, insOf_ins, atI_0, atI_1, atI_2, atI_3, atI_4, ixN_0, ixN_1, ixN_2, ixN_3, ixN_4]
    exact ⟨True.intro, fun _ => h2 e, fun z => by (cases z)⟩
  | some t =>
    rw [show stepD (some t) = DV.D.tup ((List.range 5).map (rowD t)) from rfl]
    try simp only [w_var, w_int, w_bl, w_non, w_str, w_gl, w_ty, w_bin, w_un, w_cmp, w_chain, w_and, w_or, w_not, w_ife, ev_nil, ev_cons, w_tup, w_lst, w_lstM, w_ix, part_nop, w_sl, w_bi, w_call, w_callS, w_meth, w_op, w_attr, w_app, w_idx, w_dzip, w_lc, w_lcM, w_tru, w_nott, w_andt, w_ort, i_itv, i_rng1, i_rng2, i_enm, b_nil, b_cons, s_exp, s_doc, s_pass, s_brk, s_cont, s_never, s_set, s_asg, g_var, g_sub, g_tup, gs_nil, gs_cons, s_par, s_ret, s_retF, s_retN, s_ite, s_for, for_nil, s_attr, w_prp, w_dun, w_fmt, w_fst, js_nil, js_cons, w_xisi, s_raise0, s_par3, p_add, p_addS, p_addT, p_addL, p_addB, p_sub, p_mul, p_mulL, p_fdiv, p_mod, p_pow, p_neg, p_eqI, p_neI, p_eqS, p_neS, p_eqB, p_lt, p_le, p_gt, p_ge, p_isN, p_isNN, p_isB, p_isNB, p_inT, p_ninT, p_ninK, p_ixL, p_ixT, p_ixK, p_ixG, p_ixR, p_put, p_slL, p_slT, p_lenL, p_lenT, p_lenS, p_intI, p_abs, p_max, p_min, p_divmod, p_tupT, p_tupL, p_tupR, p_all, p_any, p_repr, p_isi, p_app, p_idx, p_itL, p_itT, p_rng1, p_rng2, p_enmT, p_enmL, p_fmtS, p_fmtI, p_dlenI, p_dreprI, p_dboolI, p_dlenL, p_dlenT, p_dlenS, p_dreprL, p_dreprT, p_dreprS, p_dreprN, p_dreprB, p_dreprO, p_dboolN, p_dboolB, p_dboolL, p_strI, p_strS, oto_some, slTo_v, tst_bl, asInt_int, asBl_bl, asLst_l, asRef_r, asL_l, asStr_s, asExn_e, List.set_cons_zero, List.set_cons_succ, List.getElem?_cons_zero, List.getElem?_cons_succ, List.length_cons, List.length_nil, List.nil_append, List.cons_append, List.append_nil, at_r hx, List.getElem?_set_self, List.length_set, List.set_set, p_dzip, p_putA, asIns_i, tn_non, tn_bl, tn_int, tn_str, tn_tup, tn_lst, tn_dK, tn_ins, asTn_ty, asTn_glo, tru_bl, tru_non, tru_int, tru_lst, tru_tup, truP_bl, truP_non, truP_int, truP_lst, truP_tup, isNon_non, isNon_int, isNon_tup, isNon_lst, isNon_str, isNon_ins, seqD_tup, seqD_lst, insOf_ins, atI_0, atI_1, atI_2, atI_3, atI_4, ixN_0, ixN_1, ixN_2, ixN_3, ixN_4]
    have q : rowD t x = DV.D.tup ((List.range 5).map fun j => oD (t x j)) := rfl
    rw [q]
    try simp only [w_var, w_int, w_bl, w_non, w_str, w_gl, w_ty, w_bin, w_un, w_cmp, w_chain, w_and, w_or, w_not, w_ife, ev_nil, ev_cons, w_tup, w_lst, w_lstM, w_ix, part_nop, w_sl, w_bi, w_call, w_callS, w_meth, w_op, w_attr, w_app, w_idx, w_dzip, w_lc, w_lcM, w_tru, w_nott, w_andt, w_ort, i_itv, i_rng1, i_rng2, i_enm, b_nil, b_cons, s_exp, s_doc, s_pass, s_brk, s_cont, s_never, s_set, s_asg, g_var, g_sub, g_tup, gs_nil, gs_cons, s_par, s_ret, s_retF, s_retN, s_ite, s_for, for_nil, s_attr, w_prp, w_dun, w_fmt, w_fst, js_nil, js_cons, w_xisi, s_raise0, s_par3, p_add, p_addS, p_addT, p_addL, p_addB, p_sub, p_mul, p_mulL, p_fdiv, p_mod, p_pow, p_neg, p_eqI, p_neI, p_eqS, p_neS, p_eqB, p_lt, p_le, p_gt, p_ge, p_isN, p_isNN, p_isB, p_isNB, p_inT, p_ninT, p_ninK, p_ixL, p_ixT, p_ixK, p_ixG, p_ixR, p_put, p_slL, p_slT, p_lenL, p_lenT, p_lenS, p_intI, p_abs, p_max, p_min, p_divmod, p_tupT, p_tupL, p_tupR, p_all, p_any, p_repr, p_isi, p_app, p_idx, p_itL, p_itT, p_rng1, p_rng2, p_enmT, p_enmL, p_fmtS, p_fmtI, p_dlenI, p_dreprI, p_dboolI, p_dlenL, p_dlenT, p_dlenS, p_dreprL, p_dreprT, p_dreprS, p_dreprN, p_dreprB, p_dreprO, p_dboolN, p_dboolB, p_dboolL, p_strI, p_strS, oto_some, slTo_v, tst_bl, asInt_int, asBl_bl, asLst_l, asRef_r, asL_l, asStr_s, asExn_e, List.set_cons_zero, List.set_cons_succ, List.getElem?_cons_zero, List.getElem?_cons_succ, List.length_cons, List.length_nil, List.nil_append, List.cons_append, List.append_nil, at_r hy, List.getElem?_set_self, List.length_set, List.set_set, p_dzip, p_putA, asIns_i, tn_non, tn_bl, tn_int, tn_str, tn_tup, tn_lst, tn_dK, tn_ins, asTn_ty, asTn_glo, tru_bl, tru_non, tru_int, tru_lst, tru_tup, truP_bl, truP_non, truP_int, truP_lst, truP_tup, isNon_non, isNon_int, isNon_tup, isNon_lst, isNon_str, isNon_ins, seqD_tup, seqD_lst, insOf_ins, atI_0, atI_1, atI_2, atI_3, atI_4, ixN_0, ixN_1, ixN_2, ixN_3, ixN_4]
    exact ⟨True.intro, fun z => by (cases z), fun _ => ⟨True.intro, h1 t e⟩⟩
theorem e26 {p : DV.D} : (S (k + 1) 26 [] [a, b, c, p] st).to Q = (denB lw.tb (S k) is26 [.v a, .v b, .v c, .v p, .un, .un, .un] st).to (endPo Q) := enter (d := d26) (xs := [a, b, c, p]) rfl rfl
/-- what the law's bound tells -/
def told (o : Option SP.Tab) (x y : Nat) : DV.D := match o with
  | some t => oD (t x y)
  | none => .tup [.str "impossible"]
theorem exset {tb : Tb} {G : Gam} {i : Nat} {e : IE} {ρ ρ1 : DV.Env} {cn : Str} {fs : List (Str × DV.D)} {st1 : Store} (h : denB tb G [IS.set i e] ρ st = .ex cn fs ρ1 st1) : clr ρ1 = clr ρ := by
  rw [denB] at h
  dsimp only at h
  rw [denS] at h
  dsimp only at h
  cases q : den tb G e ρ st with
  | ok d s => rw [q] at h; rw [denB] at h; cases h
  | ex c2 f2 s => rw [q] at h; cases h; rfl
  | stuck => rw [q] at h; cases h
theorem xk1 : lw.tb.xk.lookup (("Impossible" : Str), ("MeetError" : Str)) = some true := by kernel_rfl
theorem xk2 : lw.tb.xk.lookup (("Impossible" : Str), ("LookupError" : Str)) = some true := by kernel_rfl
theorem xk3 : lw.tb.xk.lookup (("Impossible" : Str), ("BookError" : Str)) = some false := by kernel_rfl
theorem xm1 : lw.tb.xm.lookup (("Impossible" : Str), ("Impossible" : Str)) = some true := by kernel_rfl
theorem lawBound {fs : List Fc} {x y : Nat} {w : Int} (hx : x < 5) (hy : y < 5) : (S (k + 3) 26 [] [insF fs, .str (nm x), .str (nm y), .int w] st).to fun d st' => d = told (tabF fs) x y ∧ st' = st := by
  rw [e26]
  unfold is26
  rw [b_cons]
  refine s_try _ _ _ _ _ _ _ _ _ (fun cn fs ρ1 st1 h => exset h) ?_
  have xk1 := xk1
  have done : ∀ t, tabF fs = some t → told (tabF fs) x y = oD (t x y) := fun t e => by rw [e]; rfl
  have bad : ∀ P : Po, P.rt (.tup [.str "impossible"]) st → tryTo lw.tb (S (k + 2)) "Impossible" 5 [IS.set 6 (IE.and (IE.xisi 5 "MeetError") (IE.and (IE.xisi 5 "LookupError") (IE.not (IE.xisi 5 "BookError")))), IS.ret (IE.ife (IE.tru (IE.var 6)) (IE.tup [IE.str "impossible"]) (IE.tup [IE.str "other"]))]
      P (clr [.v (insF fs), .v (.str (nm x)), .v (.str (nm y)), .v (.int w), .un, .un, .un]) "Impossible" [] st := fun P hP => by
    unfold tryTo
    rw [xm1]
    dsimp only
    rw [show clr [Sl.v (insF fs), .v (.str (nm x)), .v (.str (nm y)), .v (.int w), .un, .un, .un] = [.v (insF fs), .v (.str (nm x)), .v (.str (nm y)), .v (.int w), .un, .un, .un] from rfl]
    try simp only [w_var, w_int, w_bl, w_non, w_str, w_gl, w_ty, w_bin, w_un, w_cmp, w_chain, w_and, w_or, w_not, w_ife, ev_nil, ev_cons, w_tup, w_lst, w_lstM, w_ix, part_nop, w_sl, w_bi, w_call, w_callS, w_meth, w_op, w_attr, w_app, w_idx, w_dzip, w_lc, w_lcM, w_tru, w_nott, w_andt, w_ort, i_itv, i_rng1, i_rng2, i_enm, b_nil, b_cons, s_exp, s_doc, s_pass, s_brk, s_cont, s_never, s_set, s_asg, g_var, g_sub, g_tup, gs_nil, gs_cons, s_par, s_ret, s_retF, s_retN, s_ite, s_for, for_nil, s_attr, w_prp, w_dun, w_fmt, w_fst, js_nil, js_cons, w_xisi, s_raise0, s_par3, p_add, p_addS, p_addT, p_addL, p_addB, p_sub, p_mul, p_mulL, p_fdiv, p_mod, p_pow, p_neg, p_eqI, p_neI, p_eqS, p_neS, p_eqB, p_lt, p_le, p_gt, p_ge, p_isN, p_isNN, p_isB, p_isNB, p_inT, p_ninT, p_ninK, p_ixL, p_ixT, p_ixK, p_ixG, p_ixR, p_put, p_slL, p_slT, p_lenL, p_lenT, p_lenS, p_intI, p_abs, p_max, p_min, p_divmod, p_tupT, p_tupL, p_tupR, p_all, p_any, p_repr, p_isi, p_app, p_idx, p_itL, p_itT, p_rng1, p_rng2, p_enmT, p_enmL, p_fmtS, p_fmtI, p_dlenI, p_dreprI, p_dboolI, p_dlenL, p_dlenT, p_dlenS, p_dreprL, p_dreprT, p_dreprS, p_dreprN, p_dreprB, p_dreprO, p_dboolN, p_dboolB, p_dboolL, p_strI, p_strS, oto_some, slTo_v, tst_bl, asInt_int, asBl_bl, asLst_l, asRef_r, asL_l, asStr_s, asExn_e, List.set_cons_zero, List.set_cons_succ, List.getElem?_cons_zero, List.getElem?_cons_succ, List.length_cons, List.length_nil, List.nil_append, List.cons_append, List.append_nil, xk1, xk2, xk3, List.getElem?_set_self, List.length_set, List.set_set, p_dzip, p_putA, asIns_i, tn_non, tn_bl, tn_int, tn_str, tn_tup, tn_lst, tn_dK, tn_ins, asTn_ty, asTn_glo, tru_bl, tru_non, tru_int, tru_lst, tru_tup, truP_bl, truP_non, truP_int, truP_lst, truP_tup, isNon_non, isNon_int, isNon_tup, isNon_lst, isNon_str, isNon_ins, seqD_tup, seqD_lst, insOf_ins, atI_0, atI_1, atI_2, atI_3, atI_4, ixN_0, ixN_1, ixN_2, ixN_3, ixN_4]
    exact ⟨fun _ => ⟨fun _ => ⟨fun _ => ⟨by decide, hP⟩, fun z => by (cases z)⟩, fun z => by (cases z)⟩, fun z => by (cases z)⟩
  have no : tabF fs = none → told (tabF fs) x y = .tup [.str "impossible"] := fun e => by rw [e]; rfl
  try simp only [w_var, w_int, w_bl, w_non, w_str, w_gl, w_ty, w_bin, w_un, w_cmp, w_chain, w_and, w_or, w_not, w_ife, ev_nil, ev_cons, w_tup, w_lst, w_lstM, w_ix, part_nop, w_sl, w_bi, w_call, w_callS, w_meth, w_op, w_attr, w_app, w_idx, w_dzip, w_lc, w_lcM, w_tru, w_nott, w_andt, w_ort, i_itv, i_rng1, i_rng2, i_enm, b_nil, b_cons, s_exp, s_doc, s_pass, s_brk, s_cont, s_never, s_set, s_asg, g_var, g_sub, g_tup, gs_nil, gs_cons, s_par, s_ret, s_retF, s_retN, s_ite, s_for, for_nil, s_attr, w_prp, w_dun, w_fmt, w_fst, js_nil, js_cons, w_xisi, s_raise0, s_par3, p_add, p_addS, p_addT, p_addL, p_addB, p_sub, p_mul, p_mulL, p_fdiv, p_mod, p_pow, p_neg, p_eqI, p_neI, p_eqS, p_neS, p_eqB, p_lt, p_le, p_gt, p_ge, p_isN, p_isNN, p_isB, p_isNB, p_inT, p_ninT, p_ninK, p_ixL, p_ixT, p_ixK, p_ixG, p_ixR, p_put, p_slL, p_slT, p_lenL, p_lenT, p_lenS, p_intI, p_abs, p_max, p_min, p_divmod, p_tupT, p_tupL, p_tupR, p_all, p_any, p_repr, p_isi, p_app, p_idx, p_itL, p_itT, p_rng1, p_rng2, p_enmT, p_enmL, p_fmtS, p_fmtI, p_dlenI, p_dreprI, p_dboolI, p_dlenL, p_dlenT, p_dlenS, p_dreprL, p_dreprT, p_dreprS, p_dreprN, p_dreprB, p_dreprO, p_dboolN, p_dboolB, p_dboolL, p_strI, p_strS, oto_some, slTo_v, tst_bl, asInt_int, asBl_bl, asLst_l, asRef_r, asL_l, asStr_s, asExn_e, List.set_cons_zero, List.set_cons_succ, List.getElem?_cons_zero, List.getElem?_cons_succ, List.length_cons, List.length_nil, List.nil_append, List.cons_append, List.append_nil, me_b, List.getElem?_set_self, List.length_set, List.set_set, p_dzip, p_putA, asIns_i, tn_non, tn_bl, tn_int, tn_str, tn_tup, tn_lst, tn_dK, tn_ins, asTn_ty, asTn_glo, tru_bl, tru_non, tru_int, tru_lst, tru_tup, truP_bl, truP_non, truP_int, truP_lst, truP_tup, isNon_non, isNon_int, isNon_tup, isNon_lst, isNon_str, isNon_ins, seqD_tup, seqD_lst, insOf_ins, atI_0, atI_1, atI_2, atI_3, atI_4, ixN_0, ixN_1, ixN_2, ixN_3, ixN_4]
  refine ⟨fun _ => ⟨True.intro, ?_⟩, fun _ => ⟨True.intro, ?_⟩⟩
  · rw [e29]
    refine bound0 hx hy (fun t e => ?_) (fun e => bad _ ⟨(no e).symm, rfl⟩)
    try simp only [w_var, w_int, w_bl, w_non, w_str, w_gl, w_ty, w_bin, w_un, w_cmp, w_chain, w_and, w_or, w_not, w_ife, ev_nil, ev_cons, w_tup, w_lst, w_lstM, w_ix, part_nop, w_sl, w_bi, w_call, w_callS, w_meth, w_op, w_attr, w_app, w_idx, w_dzip, w_lc, w_lcM, w_tru, w_nott, w_andt, w_ort, i_itv, i_rng1, i_rng2, i_enm, b_nil, b_cons, s_exp, s_doc, s_pass, s_brk, s_cont, s_never, s_set, s_asg, g_var, g_sub, g_tup, gs_nil, gs_cons, s_par, s_ret, s_retF, s_retN, s_ite, s_for, for_nil, s_attr, w_prp, w_dun, w_fmt, w_fst, js_nil, js_cons, w_xisi, s_raise0, s_par3, p_add, p_addS, p_addT, p_addL, p_addB, p_sub, p_mul, p_mulL, p_fdiv, p_mod, p_pow, p_neg, p_eqI, p_neI, p_eqS, p_neS, p_eqB, p_lt, p_le, p_gt, p_ge, p_isN, p_isNN, p_isB, p_isNB, p_inT, p_ninT, p_ninK, p_ixL, p_ixT, p_ixK, p_ixG, p_ixR, p_put, p_slL, p_slT, p_lenL, p_lenT, p_lenS, p_intI, p_abs, p_max, p_min, p_divmod, p_tupT, p_tupL, p_tupR, p_all, p_any, p_repr, p_isi, p_app, p_idx, p_itL, p_itT, p_rng1, p_rng2, p_enmT, p_enmL, p_fmtS, p_fmtI, p_dlenI, p_dreprI, p_dboolI, p_dlenL, p_dlenT, p_dlenS, p_dreprL, p_dreprT, p_dreprS, p_dreprN, p_dreprB, p_dreprO, p_dboolN, p_dboolB, p_dboolL, p_strI, p_strS, oto_some, slTo_v, tst_bl, asInt_int, asBl_bl, asLst_l, asRef_r, asL_l, asStr_s, asExn_e, List.set_cons_zero, List.set_cons_succ, List.getElem?_cons_zero, List.getElem?_cons_succ, List.length_cons, List.length_nil, List.nil_append, List.cons_append, List.append_nil, List.getElem?_set_self, List.length_set, List.set_set, p_dzip, p_putA, asIns_i, tn_non, tn_bl, tn_int, tn_str, tn_tup, tn_lst, tn_dK, tn_ins, asTn_ty, asTn_glo, tru_bl, tru_non, tru_int, tru_lst, tru_tup, truP_bl, truP_non, truP_int, truP_lst, truP_tup, isNon_non, isNon_int, isNon_tup, isNon_lst, isNon_str, isNon_ins, seqD_tup, seqD_lst, insOf_ins, atI_0, atI_1, atI_2, atI_3, atI_4, ixN_0, ixN_1, ixN_2, ixN_3, ixN_4]
    exact ⟨(done t e).symm, rfl⟩
  · rw [e29k]
    refine bound0 hx hy (fun t e => ?_) (fun e => bad _ ⟨(no e).symm, rfl⟩)
    try simp only [w_var, w_int, w_bl, w_non, w_str, w_gl, w_ty, w_bin, w_un, w_cmp, w_chain, w_and, w_or, w_not, w_ife, ev_nil, ev_cons, w_tup, w_lst, w_lstM, w_ix, part_nop, w_sl, w_bi, w_call, w_callS, w_meth, w_op, w_attr, w_app, w_idx, w_dzip, w_lc, w_lcM, w_tru, w_nott, w_andt, w_ort, i_itv, i_rng1, i_rng2, i_enm, b_nil, b_cons, s_exp, s_doc, s_pass, s_brk, s_cont, s_never, s_set, s_asg, g_var, g_sub, g_tup, gs_nil, gs_cons, s_par, s_ret, s_retF, s_retN, s_ite, s_for, for_nil, s_attr, w_prp, w_dun, w_fmt, w_fst, js_nil, js_cons, w_xisi, s_raise0, s_par3, p_add, p_addS, p_addT, p_addL, p_addB, p_sub, p_mul, p_mulL, p_fdiv, p_mod, p_pow, p_neg, p_eqI, p_neI, p_eqS, p_neS, p_eqB, p_lt, p_le, p_gt, p_ge, p_isN, p_isNN, p_isB, p_isNB, p_inT, p_ninT, p_ninK, p_ixL, p_ixT, p_ixK, p_ixG, p_ixR, p_put, p_slL, p_slT, p_lenL, p_lenT, p_lenS, p_intI, p_abs, p_max, p_min, p_divmod, p_tupT, p_tupL, p_tupR, p_all, p_any, p_repr, p_isi, p_app, p_idx, p_itL, p_itT, p_rng1, p_rng2, p_enmT, p_enmL, p_fmtS, p_fmtI, p_dlenI, p_dreprI, p_dboolI, p_dlenL, p_dlenT, p_dlenS, p_dreprL, p_dreprT, p_dreprS, p_dreprN, p_dreprB, p_dreprO, p_dboolN, p_dboolB, p_dboolL, p_strI, p_strS, oto_some, slTo_v, tst_bl, asInt_int, asBl_bl, asLst_l, asRef_r, asL_l, asStr_s, asExn_e, List.set_cons_zero, List.set_cons_succ, List.getElem?_cons_zero, List.getElem?_cons_succ, List.length_cons, List.length_nil, List.nil_append, List.cons_append, List.append_nil, List.getElem?_set_self, List.length_set, List.set_set, p_dzip, p_putA, asIns_i, tn_non, tn_bl, tn_int, tn_str, tn_tup, tn_lst, tn_dK, tn_ins, asTn_ty, asTn_glo, tru_bl, tru_non, tru_int, tru_lst, tru_tup, truP_bl, truP_non, truP_int, truP_lst, truP_tup, isNon_non, isNon_int, isNon_tup, isNon_lst, isNon_str, isNon_ins, seqD_tup, seqD_lst, insOf_ins, atI_0, atI_1, atI_2, atI_3, atI_4, ixN_0, ixN_1, ixN_2, ixN_3, ixN_4]
    exact ⟨(done t e).symm, rfl⟩
end
end K22

namespace K22
open PySem PySem.Spec PyProof.Rows L2 DV
section
variable {k : Nat} {st : Store} {Q : DV.D → Store → Prop} {E : Ex} {QL : List DV.D → Store → Prop} {a b c d : DV.D}
theorem tabS_frS {u : SP.Tab} {b l : Nat} {st st' : Store} (h : TabS u b st) (f : FrS l st st') (hl : l < b) : TabS u b st' := fun x hx => f.get (by omega) (h x hx)
theorem tabS_fr {u : SP.Tab} {b : Nat} {st st' : Store} (h : TabS u b st) (f : FrA st st') : TabS u b st' := fun x hx => f.get (h x hx)
theorem repr_o {o : Option Int} (h : ∀ v, o = some v → v.natAbs.log2 < 1920) : ∃ s, reprS (oD o) = some s := by
  cases o with
  | none => exact ⟨Str.ofString "None", by kernel_rfl⟩
  | some v =>
    have hv := h v rfl
    refine ⟨(PyData.int v).shown, ?_⟩
    unfold reprS
    show (if _ then some (PyData.int v).shown else _) = _
    rw [if_pos ⟨by simpa [PyData.showable] using hv, by simp [PyData.depth], int_text_fits hv⟩]
theorem log_lt {v : Int} (h1 : -(2 ^ 200) ≤ v) (h2 : v ≤ 2 ^ 200) : v.natAbs.log2 < 1920 := by
  have : v.natAbs < 2 ^ 201 := by omega
  by_cases z : v.natAbs = 0
  · rw [z]; decide
  · have := (Nat.log2_lt z).mpr this
    omega
theorem ne_bounds {ws : List Int} {fs : List Fc} {t : SP.Tab} (hw : ∀ w ∈ ws, -(2 ^ 100) ≤ w ∧ w ≤ 2 ^ 100) (hh : ∀ f ∈ fs, Holds ws f ∧ f.2.2 ≤ hid ws f.1 - hid ws f.2.1 + 2 ^ 100) (ins : SP.Ins fs) {u : SP.Tab} (up : SP.Upto fs 4 u) (so : SP.Sound fs u) (e : ∀ x y, x < 5 → y < 5 → u x y = t x y) {x y : Nat} (hx : x < 5) (hy : y < 5) : ∃ s, reprS (oD (t x y)) = some s := by
  have hc : ∀ x, -(2 ^ 100 : Int) ≤ hid ws x ∧ hid ws x ≤ 2 ^ 100 := fun x => by
    unfold hid
    rw [List.getD_eq_getElem?_getD]
    cases q : ws[x]? with
    | none => exact ⟨by decide, by decide⟩
    | some w => exact hw w (List.mem_of_getElem? q)
  refine repr_o fun v ev => ?_
  rw [← e x y hx hy] at ev
  have q := SP.bounded (B := 3 * 2 ^ 100) (C := 2 ^ 100) (h := hid ws) (fun f hm => (hh f hm).1) ins (fun f hm => by have a := (hh f hm).2; have b := hc f.1; have c := hc f.2.1; omega) (by decide) (fun x _ => hc x) so up hx hy ev
  exact log_lt (by omega) (by omega)
theorem cmp_imp : (cmpP .Eq (.tup [.str "impossible"]) (.tup [.str "impossible"]) st).tx E Q = Q (.bl true) st := by
  have e : cmpP .Eq (.tup [.str "impossible"]) (.tup [.str "impossible"]) st = .ok (.bl true) st := by kernel_rfl
  rw [e]; rfl
theorem e27 : (S (k + 1) 27 [] [a] st).to Q = (denB lw.tb (S k) is27 [.v a, .un, .un, .un, .un, .un, .un, .un, .un, .un, .un, .un] st).to (endPo Q) := enter (d := d27) (xs := [a]) rfl rfl
theorem right {l : Nat} (h : Pool 0 st l) : (S (k + 8) 27 [] [.ref l] st).to fun d st' => d = .bl true ∧ FrS l st st' := by
  rw [e27]
  unfold is27
  try simp only [w_var, w_int, w_bl, w_non, w_str, w_gl, w_ty, w_bin, w_un, w_cmp, w_chain, w_and, w_or, w_not, w_ife, ev_nil, ev_cons, w_tup, w_lst, w_lstM, w_ix, part_nop, w_sl, w_bi, w_call, w_callS, w_meth, w_op, w_attr, w_app, w_idx, w_dzip, w_lc, w_lcM, w_tru, w_nott, w_andt, w_ort, i_itv, i_rng1, i_rng2, i_enm, b_nil, b_cons, s_exp, s_doc, s_pass, s_brk, s_cont, s_never, s_set, s_asg, g_var, g_sub, g_tup, gs_nil, gs_cons, s_par, s_ret, s_retF, s_retN, s_ite, s_for, for_nil, s_attr, w_prp, w_dun, w_fmt, w_fst, js_nil, js_cons, w_xisi, s_raise0, s_par3, p_add, p_addS, p_addT, p_addL, p_addB, p_sub, p_mul, p_mulL, p_fdiv, p_mod, p_pow, p_neg, p_eqI, p_neI, p_eqS, p_neS, p_eqB, p_lt, p_le, p_gt, p_ge, p_isN, p_isNN, p_isB, p_isNB, p_inT, p_ninT, p_ninK, p_ixL, p_ixT, p_ixK, p_ixG, p_ixR, p_put, p_slL, p_slT, p_lenL, p_lenT, p_lenS, p_intI, p_abs, p_max, p_min, p_divmod, p_tupT, p_tupL, p_tupR, p_all, p_any, p_repr, p_isi, p_app, p_idx, p_itL, p_itT, p_rng1, p_rng2, p_enmT, p_enmL, p_fmtS, p_fmtI, p_dlenI, p_dreprI, p_dboolI, p_dlenL, p_dlenT, p_dlenS, p_dreprL, p_dreprT, p_dreprS, p_dreprN, p_dreprB, p_dreprO, p_dboolN, p_dboolB, p_dboolL, p_strI, p_strS, oto_some, slTo_v, tst_bl, asInt_int, asBl_bl, asLst_l, asRef_r, asL_l, asStr_s, asExn_e, List.set_cons_zero, List.set_cons_succ, List.getElem?_cons_zero, List.getElem?_cons_succ, List.length_cons, List.length_nil, List.nil_append, List.cons_append, List.append_nil, List.getElem?_set_self, List.length_set, List.set_set, p_dzip, p_putA, asIns_i, tn_non, tn_bl, tn_int, tn_str, tn_tup, tn_lst, tn_dK, tn_ins, asTn_ty, asTn_glo, tru_bl, tru_non, tru_int, tru_lst, tru_tup, truP_bl, truP_non, truP_int, truP_lst, truP_tup, isNon_non, isNon_int, isNon_tup, isNon_lst, isNon_str, isNon_ins, seqD_tup, seqD_lst, insOf_ins, atI_0, atI_1, atI_2, atI_3, atI_4, ixN_0, ixN_1, ixN_2, ixN_3, ixN_4]
  refine ⟨True.intro, R.to_mono (hidden h (by omega)) ?_⟩
  rintro _ st1 ⟨⟨ws, rfl, w5, w0⟩, h1, f1⟩
  try simp only [w_var, w_int, w_bl, w_non, w_str, w_gl, w_ty, w_bin, w_un, w_cmp, w_chain, w_and, w_or, w_not, w_ife, ev_nil, ev_cons, w_tup, w_lst, w_lstM, w_ix, part_nop, w_sl, w_bi, w_call, w_callS, w_meth, w_op, w_attr, w_app, w_idx, w_dzip, w_lc, w_lcM, w_tru, w_nott, w_andt, w_ort, i_itv, i_rng1, i_rng2, i_enm, b_nil, b_cons, s_exp, s_doc, s_pass, s_brk, s_cont, s_never, s_set, s_asg, g_var, g_sub, g_tup, gs_nil, gs_cons, s_par, s_ret, s_retF, s_retN, s_ite, s_for, for_nil, s_attr, w_prp, w_dun, w_fmt, w_fst, js_nil, js_cons, w_xisi, s_raise0, s_par3, p_add, p_addS, p_addT, p_addL, p_addB, p_sub, p_mul, p_mulL, p_fdiv, p_mod, p_pow, p_neg, p_eqI, p_neI, p_eqS, p_neS, p_eqB, p_lt, p_le, p_gt, p_ge, p_isN, p_isNN, p_isB, p_isNB, p_inT, p_ninT, p_ninK, p_ixL, p_ixT, p_ixK, p_ixG, p_ixR, p_put, p_slL, p_slT, p_lenL, p_lenT, p_lenS, p_intI, p_abs, p_max, p_min, p_divmod, p_tupT, p_tupL, p_tupR, p_all, p_any, p_repr, p_isi, p_app, p_idx, p_itL, p_itT, p_rng1, p_rng2, p_enmT, p_enmL, p_fmtS, p_fmtI, p_dlenI, p_dreprI, p_dboolI, p_dlenL, p_dlenT, p_dlenS, p_dreprL, p_dreprT, p_dreprS, p_dreprN, p_dreprB, p_dreprO, p_dboolN, p_dboolB, p_dboolL, p_strI, p_strS, oto_some, slTo_v, tst_bl, asInt_int, asBl_bl, asLst_l, asRef_r, asL_l, asStr_s, asExn_e, List.set_cons_zero, List.set_cons_succ, List.getElem?_cons_zero, List.getElem?_cons_succ, List.length_cons, List.length_nil, List.nil_append, List.cons_append, List.append_nil, List.getElem?_set_self, List.length_set, List.set_set, p_dzip, p_putA, asIns_i, tn_non, tn_bl, tn_int, tn_str, tn_tup, tn_lst, tn_dK, tn_ins, asTn_ty, asTn_glo, tru_bl, tru_non, tru_int, tru_lst, tru_tup, truP_bl, truP_non, truP_int, truP_lst, truP_tup, isNon_non, isNon_int, isNon_tup, isNon_lst, isNon_str, isNon_ins, seqD_tup, seqD_lst, insOf_ins, atI_0, atI_1, atI_2, atI_3, atI_4, ixN_0, ixN_1, ixN_2, ixN_3, ixN_4]
  refine ⟨True.intro, R.to_mono (draw h1 (by omega) (by decide) (by decide)) ?_⟩
  rintro _ st2 ⟨⟨m, rfl, m0, m1⟩, h2, f2⟩
  try simp only [w_var, w_int, w_bl, w_non, w_str, w_gl, w_ty, w_bin, w_un, w_cmp, w_chain, w_and, w_or, w_not, w_ife, ev_nil, ev_cons, w_tup, w_lst, w_lstM, w_ix, part_nop, w_sl, w_bi, w_call, w_callS, w_meth, w_op, w_attr, w_app, w_idx, w_dzip, w_lc, w_lcM, w_tru, w_nott, w_andt, w_ort, i_itv, i_rng1, i_rng2, i_enm, b_nil, b_cons, s_exp, s_doc, s_pass, s_brk, s_cont, s_never, s_set, s_asg, g_var, g_sub, g_tup, gs_nil, gs_cons, s_par, s_ret, s_retF, s_retN, s_ite, s_for, for_nil, s_attr, w_prp, w_dun, w_fmt, w_fst, js_nil, js_cons, w_xisi, s_raise0, s_par3, p_add, p_addS, p_addT, p_addL, p_addB, p_sub, p_mul, p_mulL, p_fdiv, p_mod, p_pow, p_neg, p_eqI, p_neI, p_eqS, p_neS, p_eqB, p_lt, p_le, p_gt, p_ge, p_isN, p_isNN, p_isB, p_isNB, p_inT, p_ninT, p_ninK, p_ixL, p_ixT, p_ixK, p_ixG, p_ixR, p_put, p_slL, p_slT, p_lenL, p_lenT, p_lenS, p_intI, p_abs, p_max, p_min, p_divmod, p_tupT, p_tupL, p_tupR, p_all, p_any, p_repr, p_isi, p_app, p_idx, p_itL, p_itT, p_rng1, p_rng2, p_enmT, p_enmL, p_fmtS, p_fmtI, p_dlenI, p_dreprI, p_dboolI, p_dlenL, p_dlenT, p_dlenS, p_dreprL, p_dreprT, p_dreprS, p_dreprN, p_dreprB, p_dreprO, p_dboolN, p_dboolB, p_dboolL, p_strI, p_strS, oto_some, slTo_v, tst_bl, asInt_int, asBl_bl, asLst_l, asRef_r, asL_l, asStr_s, asExn_e, List.set_cons_zero, List.set_cons_succ, List.getElem?_cons_zero, List.getElem?_cons_succ, List.length_cons, List.length_nil, List.nil_append, List.cons_append, List.append_nil, List.getElem?_set_self, List.length_set, List.set_set, p_dzip, p_putA, asIns_i, tn_non, tn_bl, tn_int, tn_str, tn_tup, tn_lst, tn_dK, tn_ins, asTn_ty, asTn_glo, tru_bl, tru_non, tru_int, tru_lst, tru_tup, truP_bl, truP_non, truP_int, truP_lst, truP_tup, isNon_non, isNon_int, isNon_tup, isNon_lst, isNon_str, isNon_ins, seqD_tup, seqD_lst, insOf_ins, atI_0, atI_1, atI_2, atI_3, atI_4, ixN_0, ixN_1, ixN_2, ixN_3, ixN_4]
  refine ⟨by omega, ?_⟩
  refine drawnF (k := k + 3) (ws := ws) (by decide) (by decide) h2 (by omega) (by omega) rfl rfl w5 ?_
  intro fs st3 lf hf hh h3 f3
  have lf8 : fs.length ≤ 8 := by omega
  have ins : SP.Ins fs := fun f h => ⟨(hf f h).1, (hf f h).2.1⟩
  have hid' : SP.Hid (hid ws) fs := fun f hm => (hh f hm).1
  obtain ⟨t, et⟩ := SP.steps_hid fs [] SP.free SP.good_free ins hid'
  have good := SP.steps_good fs [] SP.free SP.good_free ins t et
  rw [List.nil_append] at good
  have ht : tabF fs = some t := et
  try simp only [w_var, w_int, w_bl, w_non, w_str, w_gl, w_ty, w_bin, w_un, w_cmp, w_chain, w_and, w_or, w_not, w_ife, ev_nil, ev_cons, w_tup, w_lst, w_lstM, w_ix, part_nop, w_sl, w_bi, w_call, w_callS, w_meth, w_op, w_attr, w_app, w_idx, w_dzip, w_lc, w_lcM, w_tru, w_nott, w_andt, w_ort, i_itv, i_rng1, i_rng2, i_enm, b_nil, b_cons, s_exp, s_doc, s_pass, s_brk, s_cont, s_never, s_set, s_asg, g_var, g_sub, g_tup, gs_nil, gs_cons, s_par, s_ret, s_retF, s_retN, s_ite, s_for, for_nil, s_attr, w_prp, w_dun, w_fmt, w_fst, js_nil, js_cons, w_xisi, s_raise0, s_par3, p_add, p_addS, p_addT, p_addL, p_addB, p_sub, p_mul, p_mulL, p_fdiv, p_mod, p_pow, p_neg, p_eqI, p_neI, p_eqS, p_neS, p_eqB, p_lt, p_le, p_gt, p_ge, p_isN, p_isNN, p_isB, p_isNB, p_inT, p_ninT, p_ninK, p_ixL, p_ixT, p_ixK, p_ixG, p_ixR, p_put, p_slL, p_slT, p_lenL, p_lenT, p_lenS, p_intI, p_abs, p_max, p_min, p_divmod, p_tupT, p_tupL, p_tupR, p_all, p_any, p_repr, p_isi, p_app, p_idx, p_itL, p_itT, p_rng1, p_rng2, p_enmT, p_enmL, p_fmtS, p_fmtI, p_dlenI, p_dreprI, p_dboolI, p_dlenL, p_dlenT, p_dlenS, p_dreprL, p_dreprT, p_dreprS, p_dreprN, p_dreprB, p_dreprO, p_dboolN, p_dboolB, p_dboolL, p_strI, p_strS, oto_some, slTo_v, tst_bl, asInt_int, asBl_bl, asLst_l, asRef_r, asL_l, asStr_s, asExn_e, List.set_cons_zero, List.set_cons_succ, List.getElem?_cons_zero, List.getElem?_cons_succ, List.length_cons, List.length_nil, List.nil_append, List.cons_append, List.append_nil, List.getElem?_set_self, List.length_set, List.set_set, p_dzip, p_putA, asIns_i, tn_non, tn_bl, tn_int, tn_str, tn_tup, tn_lst, tn_dK, tn_ins, asTn_ty, asTn_glo, tru_bl, tru_non, tru_int, tru_lst, tru_tup, truP_bl, truP_non, truP_int, truP_lst, truP_tup, isNon_non, isNon_int, isNon_tup, isNon_lst, isNon_str, isNon_ins, seqD_tup, seqD_lst, insOf_ins, atI_0, atI_1, atI_2, atI_3, atI_4, ixN_0, ixN_1, ixN_2, ixN_3, ixN_4]
  have qm := made (k := k) (st := st3) hf (by omega)
  refine ⟨True.intro, R.to_mono qm ?_⟩
  rintro _ st4 ⟨rfl, f4⟩
  have h4 := h3.fr f4
  try simp only [w_var, w_int, w_bl, w_non, w_str, w_gl, w_ty, w_bin, w_un, w_cmp, w_chain, w_and, w_or, w_not, w_ife, ev_nil, ev_cons, w_tup, w_lst, w_lstM, w_ix, part_nop, w_sl, w_bi, w_call, w_callS, w_meth, w_op, w_attr, w_app, w_idx, w_dzip, w_lc, w_lcM, w_tru, w_nott, w_andt, w_ort, i_itv, i_rng1, i_rng2, i_enm, b_nil, b_cons, s_exp, s_doc, s_pass, s_brk, s_cont, s_never, s_set, s_asg, g_var, g_sub, g_tup, gs_nil, gs_cons, s_par, s_ret, s_retF, s_retN, s_ite, s_for, for_nil, s_attr, w_prp, w_dun, w_fmt, w_fst, js_nil, js_cons, w_xisi, s_raise0, s_par3, p_add, p_addS, p_addT, p_addL, p_addB, p_sub, p_mul, p_mulL, p_fdiv, p_mod, p_pow, p_neg, p_eqI, p_neI, p_eqS, p_neS, p_eqB, p_lt, p_le, p_gt, p_ge, p_isN, p_isNN, p_isB, p_isNB, p_inT, p_ninT, p_ninK, p_ixL, p_ixT, p_ixK, p_ixG, p_ixR, p_put, p_slL, p_slT, p_lenL, p_lenT, p_lenS, p_intI, p_abs, p_max, p_min, p_divmod, p_tupT, p_tupL, p_tupR, p_all, p_any, p_repr, p_isi, p_app, p_idx, p_itL, p_itT, p_rng1, p_rng2, p_enmT, p_enmL, p_fmtS, p_fmtI, p_dlenI, p_dreprI, p_dboolI, p_dlenL, p_dlenT, p_dlenS, p_dreprL, p_dreprT, p_dreprS, p_dreprN, p_dreprB, p_dreprO, p_dboolN, p_dboolB, p_dboolL, p_strI, p_strS, oto_some, slTo_v, tst_bl, asInt_int, asBl_bl, asLst_l, asRef_r, asL_l, asStr_s, asExn_e, List.set_cons_zero, List.set_cons_succ, List.getElem?_cons_zero, List.getElem?_cons_succ, List.length_cons, List.length_nil, List.nil_append, List.cons_append, List.append_nil, List.getElem?_set_self, List.length_set, List.set_set, p_dzip, p_putA, asIns_i, tn_non, tn_bl, tn_int, tn_str, tn_tup, tn_lst, tn_dK, tn_ins, asTn_ty, asTn_glo, tru_bl, tru_non, tru_int, tru_lst, tru_tup, truP_bl, truP_non, truP_int, truP_lst, truP_tup, isNon_non, isNon_int, isNon_tup, isNon_lst, isNon_str, isNon_ins, seqD_tup, seqD_lst, insOf_ins, atI_0, atI_1, atI_2, atI_3, atI_4, ixN_0, ixN_1, ixN_2, ixN_3, ixN_4]
  have qt := table (k := k + 5) (st := st4) hf
  refine ⟨True.intro, R.to_mono qt ?_⟩
  rintro _ st5 ⟨⟨b, u, rfl, lb, ts, up, so⟩, f5⟩
  have h5 := h4.fr f5
  have lb : l < b := by
    obtain ⟨s, g, c, e, _⟩ := h4
    have := (List.getElem?_eq_some_iff.mp e).1
    omega
  have same : ∀ x y, x < 5 → y < 5 → u x y = t x y := fun x y hx hy => SP.same hid' ins good so up hx hy
  have rep : ∀ x y, x < 5 → y < 5 → ∃ s, reprS (oD (t x y)) = some s := fun x y hx hy => ne_bounds w0 hh ins up so same hx hy
  try simp only [w_var, w_int, w_bl, w_non, w_str, w_gl, w_ty, w_bin, w_un, w_cmp, w_chain, w_and, w_or, w_not, w_ife, ev_nil, ev_cons, w_tup, w_lst, w_lstM, w_ix, part_nop, w_sl, w_bi, w_call, w_callS, w_meth, w_op, w_attr, w_app, w_idx, w_dzip, w_lc, w_lcM, w_tru, w_nott, w_andt, w_ort, i_itv, i_rng1, i_rng2, i_enm, b_nil, b_cons, s_exp, s_doc, s_pass, s_brk, s_cont, s_never, s_set, s_asg, g_var, g_sub, g_tup, gs_nil, gs_cons, s_par, s_ret, s_retF, s_retN, s_ite, s_for, for_nil, s_attr, w_prp, w_dun, w_fmt, w_fst, js_nil, js_cons, w_xisi, s_raise0, s_par3, p_add, p_addS, p_addT, p_addL, p_addB, p_sub, p_mul, p_mulL, p_fdiv, p_mod, p_pow, p_neg, p_eqI, p_neI, p_eqS, p_neS, p_eqB, p_lt, p_le, p_gt, p_ge, p_isN, p_isNN, p_isB, p_isNB, p_inT, p_ninT, p_ninK, p_ixL, p_ixT, p_ixK, p_ixG, p_ixR, p_put, p_slL, p_slT, p_lenL, p_lenT, p_lenS, p_intI, p_abs, p_max, p_min, p_divmod, p_tupT, p_tupL, p_tupR, p_all, p_any, p_repr, p_isi, p_app, p_idx, p_itL, p_itT, p_rng1, p_rng2, p_enmT, p_enmL, p_fmtS, p_fmtI, p_dlenI, p_dreprI, p_dboolI, p_dlenL, p_dlenT, p_dlenS, p_dreprL, p_dreprT, p_dreprS, p_dreprN, p_dreprB, p_dreprO, p_dboolN, p_dboolB, p_dboolL, p_strI, p_strS, oto_some, slTo_v, tst_bl, asInt_int, asBl_bl, asLst_l, asRef_r, asL_l, asStr_s, asExn_e, List.set_cons_zero, List.set_cons_succ, List.getElem?_cons_zero, List.getElem?_cons_succ, List.length_cons, List.length_nil, List.nil_append, List.cons_append, List.append_nil, List.getElem?_set_self, List.length_set, List.set_set, p_dzip, p_putA, asIns_i, tn_non, tn_bl, tn_int, tn_str, tn_tup, tn_lst, tn_dK, tn_ins, asTn_ty, asTn_glo, tru_bl, tru_non, tru_int, tru_lst, tru_tup, truP_bl, truP_non, truP_int, truP_lst, truP_tup, isNon_non, isNon_int, isNon_tup, isNon_lst, isNon_str, isNon_ins, seqD_tup, seqD_lst, insOf_ins, atI_0, atI_1, atI_2, atI_3, atI_4, ixN_0, ixN_1, ixN_2, ixN_3, ixN_4]
  refine ⟨True.intro, R.to_mono names20 ?_⟩
  rintro _ st6 ⟨rfl, e6⟩
  have e6 := e6.symm
  subst e6
  try simp only [w_var, w_int, w_bl, w_non, w_str, w_gl, w_ty, w_bin, w_un, w_cmp, w_chain, w_and, w_or, w_not, w_ife, ev_nil, ev_cons, w_tup, w_lst, w_lstM, w_ix, part_nop, w_sl, w_bi, w_call, w_callS, w_meth, w_op, w_attr, w_app, w_idx, w_dzip, w_lc, w_lcM, w_tru, w_nott, w_andt, w_ort, i_itv, i_rng1, i_rng2, i_enm, b_nil, b_cons, s_exp, s_doc, s_pass, s_brk, s_cont, s_never, s_set, s_asg, g_var, g_sub, g_tup, gs_nil, gs_cons, s_par, s_ret, s_retF, s_retN, s_ite, s_for, for_nil, s_attr, w_prp, w_dun, w_fmt, w_fst, js_nil, js_cons, w_xisi, s_raise0, s_par3, p_add, p_addS, p_addT, p_addL, p_addB, p_sub, p_mul, p_mulL, p_fdiv, p_mod, p_pow, p_neg, p_eqI, p_neI, p_eqS, p_neS, p_eqB, p_lt, p_le, p_gt, p_ge, p_isN, p_isNN, p_isB, p_isNB, p_inT, p_ninT, p_ninK, p_ixL, p_ixT, p_ixK, p_ixG, p_ixR, p_put, p_slL, p_slT, p_lenL, p_lenT, p_lenS, p_intI, p_abs, p_max, p_min, p_divmod, p_tupT, p_tupL, p_tupR, p_all, p_any, p_repr, p_isi, p_app, p_idx, p_itL, p_itT, p_rng1, p_rng2, p_enmT, p_enmL, p_fmtS, p_fmtI, p_dlenI, p_dreprI, p_dboolI, p_dlenL, p_dlenT, p_dlenS, p_dreprL, p_dreprT, p_dreprS, p_dreprN, p_dreprB, p_dreprO, p_dboolN, p_dboolB, p_dboolL, p_strI, p_strS, oto_some, slTo_v, tst_bl, asInt_int, asBl_bl, asLst_l, asRef_r, asL_l, asStr_s, asExn_e, List.set_cons_zero, List.set_cons_succ, List.getElem?_cons_zero, List.getElem?_cons_succ, List.length_cons, List.length_nil, List.nil_append, List.cons_append, List.append_nil, List.getElem?_set_self, List.length_set, List.set_set, p_dzip, p_putA, asIns_i, tn_non, tn_bl, tn_int, tn_str, tn_tup, tn_lst, tn_dK, tn_ins, asTn_ty, asTn_glo, tru_bl, tru_non, tru_int, tru_lst, tru_tup, truP_bl, truP_non, truP_int, truP_lst, truP_tup, isNon_non, isNon_int, isNon_tup, isNon_lst, isNon_str, isNon_ins, seqD_tup, seqD_lst, insOf_ins, atI_0, atI_1, atI_2, atI_3, atI_4, ixN_0, ixN_1, ixN_2, ixN_3, ixN_4]
  have fr : FrS l st st5 := f1.trans (f2.trans (f3.trans (f4.s.trans f5.s)))
  refine ⟨by decide, ?_⟩
  refine for_inv (fun ds ρ st' => ∃ (ts : List Nat) (x6 x7 x8 x9 x10 x11 : Sl), ds = ts.map (fun i : Nat => DV.D.int i) ∧ st' = st5 ∧ ρ = [.v (.ref l), .v (.lst (ws.map .int)), .v (.lst (fs.map fD)), .v (insF fs), .v (.lst (refs b)), .v (.lst nml), x6, x7, x8, x9, x10, x11]) ?_ ?_ _ _ _ ⟨List.range 2, _, _, _, _, _, _, rng0 2, rfl, rfl⟩
  · rintro d ds ρ st7 ⟨tz, x6, x7, x8, x9, x10, x11, a2, rfl, rfl⟩
    cases tz with
    | nil => cases a2
    | cons tn tz =>
      simp only [List.map_cons, List.cons.injEq] at a2
      obtain ⟨rfl, rfl⟩ := a2
      try simp only [w_var, w_int, w_bl, w_non, w_str, w_gl, w_ty, w_bin, w_un, w_cmp, w_chain, w_and, w_or, w_not, w_ife, ev_nil, ev_cons, w_tup, w_lst, w_lstM, w_ix, part_nop, w_sl, w_bi, w_call, w_callS, w_meth, w_op, w_attr, w_app, w_idx, w_dzip, w_lc, w_lcM, w_tru, w_nott, w_andt, w_ort, i_itv, i_rng1, i_rng2, i_enm, b_nil, b_cons, s_exp, s_doc, s_pass, s_brk, s_cont, s_never, s_set, s_asg, g_var, g_sub, g_tup, gs_nil, gs_cons, s_par, s_ret, s_retF, s_retN, s_ite, s_for, for_nil, s_attr, w_prp, w_dun, w_fmt, w_fst, js_nil, js_cons, w_xisi, s_raise0, s_par3, p_add, p_addS, p_addT, p_addL, p_addB, p_sub, p_mul, p_mulL, p_fdiv, p_mod, p_pow, p_neg, p_eqI, p_neI, p_eqS, p_neS, p_eqB, p_lt, p_le, p_gt, p_ge, p_isN, p_isNN, p_isB, p_isNB, p_inT, p_ninT, p_ninK, p_ixL, p_ixT, p_ixK, p_ixG, p_ixR, p_put, p_slL, p_slT, p_lenL, p_lenT, p_lenS, p_intI, p_abs, p_max, p_min, p_divmod, p_tupT, p_tupL, p_tupR, p_all, p_any, p_repr, p_isi, p_app, p_idx, p_itL, p_itT, p_rng1, p_rng2, p_enmT, p_enmL, p_fmtS, p_fmtI, p_dlenI, p_dreprI, p_dboolI, p_dlenL, p_dlenT, p_dlenS, p_dreprL, p_dreprT, p_dreprS, p_dreprN, p_dreprB, p_dreprO, p_dboolN, p_dboolB, p_dboolL, p_strI, p_strS, oto_some, slTo_v, tst_bl, asInt_int, asBl_bl, asLst_l, asRef_r, asL_l, asStr_s, asExn_e, List.set_cons_zero, List.set_cons_succ, List.getElem?_cons_zero, List.getElem?_cons_succ, List.length_cons, List.length_nil, List.nil_append, List.cons_append, List.append_nil, List.getElem?_set_self, List.length_set, List.set_set, p_dzip, p_putA, asIns_i, tn_non, tn_bl, tn_int, tn_str, tn_tup, tn_lst, tn_dK, tn_ins, asTn_ty, asTn_glo, tru_bl, tru_non, tru_int, tru_lst, tru_tup, truP_bl, truP_non, truP_int, truP_lst, truP_tup, isNon_non, isNon_int, isNon_tup, isNon_lst, isNon_str, isNon_ins, seqD_tup, seqD_lst, insOf_ins, atI_0, atI_1, atI_2, atI_3, atI_4, ixN_0, ixN_1, ixN_2, ixN_3, ixN_4]
      refine ⟨by decide, ?_⟩
      rw [show rng 0 (Int.toNat 5) = (List.range 5).map (fun i : Nat => DV.D.int i) from rng0 5]
      refine for_inv (fun ds ρ st' => ∃ (ys : List Nat) (x7 x8 x9 x10 x11 : Sl), (∀ y ∈ ys, y < 5) ∧ ds = ys.map (fun i : Nat => DV.D.int i) ∧ st' = st7 ∧ ρ = [.v (.ref l), .v (.lst (ws.map .int)), .v (.lst (fs.map fD)), .v (insF fs), .v (.lst (refs b)), .v (.lst nml), .v (.int tn), x7, x8, x9, x10, x11]) ?_ ?_ _ _ _ ⟨List.range 5, _, _, _, _, _, fun y hy => List.mem_range.mp hy, rfl, rfl, rfl⟩
      · rintro d ds ρ st8 ⟨ys, x7, x8, x9, x10, x11, a1, a2, rfl, rfl⟩
        cases ys with
        | nil => cases a2
        | cons x ys =>
          simp only [List.map_cons, List.cons.injEq] at a2
          obtain ⟨rfl, rfl⟩ := a2
          have hx := a1 x (List.mem_cons_self ..)
          have nx := at_nm (x : Int) (by omega) (by omega)
          rw [Int.toNat_natCast] at nx
          try simp only [w_var, w_int, w_bl, w_non, w_str, w_gl, w_ty, w_bin, w_un, w_cmp, w_chain, w_and, w_or, w_not, w_ife, ev_nil, ev_cons, w_tup, w_lst, w_lstM, w_ix, part_nop, w_sl, w_bi, w_call, w_callS, w_meth, w_op, w_attr, w_app, w_idx, w_dzip, w_lc, w_lcM, w_tru, w_nott, w_andt, w_ort, i_itv, i_rng1, i_rng2, i_enm, b_nil, b_cons, s_exp, s_doc, s_pass, s_brk, s_cont, s_never, s_set, s_asg, g_var, g_sub, g_tup, gs_nil, gs_cons, s_par, s_ret, s_retF, s_retN, s_ite, s_for, for_nil, s_attr, w_prp, w_dun, w_fmt, w_fst, js_nil, js_cons, w_xisi, s_raise0, s_par3, p_add, p_addS, p_addT, p_addL, p_addB, p_sub, p_mul, p_mulL, p_fdiv, p_mod, p_pow, p_neg, p_eqI, p_neI, p_eqS, p_neS, p_eqB, p_lt, p_le, p_gt, p_ge, p_isN, p_isNN, p_isB, p_isNB, p_inT, p_ninT, p_ninK, p_ixL, p_ixT, p_ixK, p_ixG, p_ixR, p_put, p_slL, p_slT, p_lenL, p_lenT, p_lenS, p_intI, p_abs, p_max, p_min, p_divmod, p_tupT, p_tupL, p_tupR, p_all, p_any, p_repr, p_isi, p_app, p_idx, p_itL, p_itT, p_rng1, p_rng2, p_enmT, p_enmL, p_fmtS, p_fmtI, p_dlenI, p_dreprI, p_dboolI, p_dlenL, p_dlenT, p_dlenS, p_dreprL, p_dreprT, p_dreprS, p_dreprN, p_dreprB, p_dreprO, p_dboolN, p_dboolB, p_dboolL, p_strI, p_strS, oto_some, slTo_v, tst_bl, asInt_int, asBl_bl, asLst_l, asRef_r, asL_l, asStr_s, asExn_e, List.set_cons_zero, List.set_cons_succ, List.getElem?_cons_zero, List.getElem?_cons_succ, List.length_cons, List.length_nil, List.nil_append, List.cons_append, List.append_nil, List.getElem?_set_self, List.length_set, List.set_set, p_dzip, p_putA, asIns_i, tn_non, tn_bl, tn_int, tn_str, tn_tup, tn_lst, tn_dK, tn_ins, asTn_ty, asTn_glo, tru_bl, tru_non, tru_int, tru_lst, tru_tup, truP_bl, truP_non, truP_int, truP_lst, truP_tup, isNon_non, isNon_int, isNon_tup, isNon_lst, isNon_str, isNon_ins, seqD_tup, seqD_lst, insOf_ins, atI_0, atI_1, atI_2, atI_3, atI_4, ixN_0, ixN_1, ixN_2, ixN_3, ixN_4]
          refine ⟨by decide, ?_⟩
          rw [show rng 0 (Int.toNat 5) = (List.range 5).map (fun i : Nat => DV.D.int i) from rng0 5]
          refine for_inv (fun ds ρ st' => ∃ (zs : List Nat) (x8 x9 x10 x11 : Sl), (∀ y ∈ zs, y < 5) ∧ ds = zs.map (fun i : Nat => DV.D.int i) ∧ st' = st8 ∧ ρ = [.v (.ref l), .v (.lst (ws.map .int)), .v (.lst (fs.map fD)), .v (insF fs), .v (.lst (refs b)), .v (.lst nml), .v (.int tn), .v (.int x), x8, x9, x10, x11]) ?_ ?_ _ _ _ ⟨List.range 5, _, _, _, _, fun y hy => List.mem_range.mp hy, rfl, rfl, rfl⟩
          · rintro d ds ρ st9 ⟨zs, x8, x9, x10, x11, b1, b2, rfl, rfl⟩
            cases zs with
            | nil => cases b2
            | cons y zs =>
              simp only [List.map_cons, List.cons.injEq] at b2
              obtain ⟨rfl, rfl⟩ := b2
              have hy := b1 y (List.mem_cons_self ..)
              have ny := at_nm (y : Int) (by omega) (by omega)
              rw [Int.toNat_natCast] at ny
              have bx := ts x hx
              try simp only [w_var, w_int, w_bl, w_non, w_str, w_gl, w_ty, w_bin, w_un, w_cmp, w_chain, w_and, w_or, w_not, w_ife, ev_nil, ev_cons, w_tup, w_lst, w_lstM, w_ix, part_nop, w_sl, w_bi, w_call, w_callS, w_meth, w_op, w_attr, w_app, w_idx, w_dzip, w_lc, w_lcM, w_tru, w_nott, w_andt, w_ort, i_itv, i_rng1, i_rng2, i_enm, b_nil, b_cons, s_exp, s_doc, s_pass, s_brk, s_cont, s_never, s_set, s_asg, g_var, g_sub, g_tup, gs_nil, gs_cons, s_par, s_ret, s_retF, s_retN, s_ite, s_for, for_nil, s_attr, w_prp, w_dun, w_fmt, w_fst, js_nil, js_cons, w_xisi, s_raise0, s_par3, p_add, p_addS, p_addT, p_addL, p_addB, p_sub, p_mul, p_mulL, p_fdiv, p_mod, p_pow, p_neg, p_eqI, p_neI, p_eqS, p_neS, p_eqB, p_lt, p_le, p_gt, p_ge, p_isN, p_isNN, p_isB, p_isNB, p_inT, p_ninT, p_ninK, p_ixL, p_ixT, p_ixK, p_ixG, p_ixR, p_put, p_slL, p_slT, p_lenL, p_lenT, p_lenS, p_intI, p_abs, p_max, p_min, p_divmod, p_tupT, p_tupL, p_tupR, p_all, p_any, p_repr, p_isi, p_app, p_idx, p_itL, p_itT, p_rng1, p_rng2, p_enmT, p_enmL, p_fmtS, p_fmtI, p_dlenI, p_dreprI, p_dboolI, p_dlenL, p_dlenT, p_dlenS, p_dreprL, p_dreprT, p_dreprS, p_dreprN, p_dreprB, p_dreprO, p_dboolN, p_dboolB, p_dboolL, p_strI, p_strS, oto_some, slTo_v, tst_bl, asInt_int, asBl_bl, asLst_l, asRef_r, asL_l, asStr_s, asExn_e, List.set_cons_zero, List.set_cons_succ, List.getElem?_cons_zero, List.getElem?_cons_succ, List.length_cons, List.length_nil, List.nil_append, List.cons_append, List.append_nil, nx, ny, List.getElem?_set_self, List.length_set, List.set_set, p_dzip, p_putA, asIns_i, tn_non, tn_bl, tn_int, tn_str, tn_tup, tn_lst, tn_dK, tn_ins, asTn_ty, asTn_glo, tru_bl, tru_non, tru_int, tru_lst, tru_tup, truP_bl, truP_non, truP_int, truP_lst, truP_tup, isNon_non, isNon_int, isNon_tup, isNon_lst, isNon_str, isNon_ins, seqD_tup, seqD_lst, insOf_ins, atI_0, atI_1, atI_2, atI_3, atI_4, ixN_0, ixN_1, ixN_2, ixN_3, ixN_4]
              have q := lawBound (k := k + 4) (st := st9) (fs := fs) (w := tn) hx hy
              refine ⟨True.intro, R.to_mono q ?_⟩
              rintro _ st10 ⟨rfl, e10⟩
              have e10 := e10.symm
              subst e10
              obtain ⟨s, es⟩ := rep x y hx hy
              rw [show told (tabF fs) x y = oD (t x y) by rw [ht]; rfl]
              have sm := same x y hx hy
              try simp only [w_var, w_int, w_bl, w_non, w_str, w_gl, w_ty, w_bin, w_un, w_cmp, w_chain, w_and, w_or, w_not, w_ife, ev_nil, ev_cons, w_tup, w_lst, w_lstM, w_ix, part_nop, w_sl, w_bi, w_call, w_callS, w_meth, w_op, w_attr, w_app, w_idx, w_dzip, w_lc, w_lcM, w_tru, w_nott, w_andt, w_ort, i_itv, i_rng1, i_rng2, i_enm, b_nil, b_cons, s_exp, s_doc, s_pass, s_brk, s_cont, s_never, s_set, s_asg, g_var, g_sub, g_tup, gs_nil, gs_cons, s_par, s_ret, s_retF, s_retN, s_ite, s_for, for_nil, s_attr, w_prp, w_dun, w_fmt, w_fst, js_nil, js_cons, w_xisi, s_raise0, s_par3, p_add, p_addS, p_addT, p_addL, p_addB, p_sub, p_mul, p_mulL, p_fdiv, p_mod, p_pow, p_neg, p_eqI, p_neI, p_eqS, p_neS, p_eqB, p_lt, p_le, p_gt, p_ge, p_isN, p_isNN, p_isB, p_isNB, p_inT, p_ninT, p_ninK, p_ixL, p_ixT, p_ixK, p_ixG, p_ixR, p_put, p_slL, p_slT, p_lenL, p_lenT, p_lenS, p_intI, p_abs, p_max, p_min, p_divmod, p_tupT, p_tupL, p_tupR, p_all, p_any, p_repr, p_isi, p_app, p_idx, p_itL, p_itT, p_rng1, p_rng2, p_enmT, p_enmL, p_fmtS, p_fmtI, p_dlenI, p_dreprI, p_dboolI, p_dlenL, p_dlenT, p_dlenS, p_dreprL, p_dreprT, p_dreprS, p_dreprN, p_dreprB, p_dreprO, p_dboolN, p_dboolB, p_dboolL, p_strI, p_strS, oto_some, slTo_v, tst_bl, asInt_int, asBl_bl, asLst_l, asRef_r, asL_l, asStr_s, asExn_e, List.set_cons_zero, List.set_cons_succ, List.getElem?_cons_zero, List.getElem?_cons_succ, List.length_cons, List.length_nil, List.nil_append, List.cons_append, List.append_nil, es, oto_some, at_refs hx, bx, at_l hy, sm, List.getElem?_set_self, List.length_set, List.set_set, p_dzip, p_putA, asIns_i, tn_non, tn_bl, tn_int, tn_str, tn_tup, tn_lst, tn_dK, tn_ins, asTn_ty, asTn_glo, tru_bl, tru_non, tru_int, tru_lst, tru_tup, truP_bl, truP_non, truP_int, truP_lst, truP_tup, isNon_non, isNon_int, isNon_tup, isNon_lst, isNon_str, isNon_ins, seqD_tup, seqD_lst, insOf_ins, atI_0, atI_1, atI_2, atI_3, atI_4, ixN_0, ixN_1, ixN_2, ixN_3, ixN_4]
              simp only [decide_true, Bool.not_true]
              exact ⟨fun z => by (cases z), fun _ => ⟨zs, _, _, _, _, fun z hz => b1 z (List.mem_cons_of_mem _ hz), (by first | rfl | exact True.intro), (by first | rfl | exact True.intro), (by first | rfl | exact True.intro)⟩⟩
          · rintro ρ st9 ⟨zs, x8, x9, x10, x11, b1, b2, rfl, rfl⟩
            try simp only [w_var, w_int, w_bl, w_non, w_str, w_gl, w_ty, w_bin, w_un, w_cmp, w_chain, w_and, w_or, w_not, w_ife, ev_nil, ev_cons, w_tup, w_lst, w_lstM, w_ix, part_nop, w_sl, w_bi, w_call, w_callS, w_meth, w_op, w_attr, w_app, w_idx, w_dzip, w_lc, w_lcM, w_tru, w_nott, w_andt, w_ort, i_itv, i_rng1, i_rng2, i_enm, b_nil, b_cons, s_exp, s_doc, s_pass, s_brk, s_cont, s_never, s_set, s_asg, g_var, g_sub, g_tup, gs_nil, gs_cons, s_par, s_ret, s_retF, s_retN, s_ite, s_for, for_nil, s_attr, w_prp, w_dun, w_fmt, w_fst, js_nil, js_cons, w_xisi, s_raise0, s_par3, p_add, p_addS, p_addT, p_addL, p_addB, p_sub, p_mul, p_mulL, p_fdiv, p_mod, p_pow, p_neg, p_eqI, p_neI, p_eqS, p_neS, p_eqB, p_lt, p_le, p_gt, p_ge, p_isN, p_isNN, p_isB, p_isNB, p_inT, p_ninT, p_ninK, p_ixL, p_ixT, p_ixK, p_ixG, p_ixR, p_put, p_slL, p_slT, p_lenL, p_lenT, p_lenS, p_intI, p_abs, p_max, p_min, p_divmod, p_tupT, p_tupL, p_tupR, p_all, p_any, p_repr, p_isi, p_app, p_idx, p_itL, p_itT, p_rng1, p_rng2, p_enmT, p_enmL, p_fmtS, p_fmtI, p_dlenI, p_dreprI, p_dboolI, p_dlenL, p_dlenT, p_dlenS, p_dreprL, p_dreprT, p_dreprS, p_dreprN, p_dreprB, p_dreprO, p_dboolN, p_dboolB, p_dboolL, p_strI, p_strS, oto_some, slTo_v, tst_bl, asInt_int, asBl_bl, asLst_l, asRef_r, asL_l, asStr_s, asExn_e, List.set_cons_zero, List.set_cons_succ, List.getElem?_cons_zero, List.getElem?_cons_succ, List.length_cons, List.length_nil, List.nil_append, List.cons_append, List.append_nil, List.getElem?_set_self, List.length_set, List.set_set, p_dzip, p_putA, asIns_i, tn_non, tn_bl, tn_int, tn_str, tn_tup, tn_lst, tn_dK, tn_ins, asTn_ty, asTn_glo, tru_bl, tru_non, tru_int, tru_lst, tru_tup, truP_bl, truP_non, truP_int, truP_lst, truP_tup, isNon_non, isNon_int, isNon_tup, isNon_lst, isNon_str, isNon_ins, seqD_tup, seqD_lst, insOf_ins, atI_0, atI_1, atI_2, atI_3, atI_4, ixN_0, ixN_1, ixN_2, ixN_3, ixN_4]
            exact ⟨ys, _, _, _, _, _, fun z hz => a1 z (List.mem_cons_of_mem _ hz), (by first | rfl | exact True.intro), (by first | rfl | exact True.intro), (by first | rfl | exact True.intro)⟩
      · rintro ρ st8 ⟨ys, x7, x8, x9, x10, x11, a1, a2, rfl, rfl⟩
        try simp only [w_var, w_int, w_bl, w_non, w_str, w_gl, w_ty, w_bin, w_un, w_cmp, w_chain, w_and, w_or, w_not, w_ife, ev_nil, ev_cons, w_tup, w_lst, w_lstM, w_ix, part_nop, w_sl, w_bi, w_call, w_callS, w_meth, w_op, w_attr, w_app, w_idx, w_dzip, w_lc, w_lcM, w_tru, w_nott, w_andt, w_ort, i_itv, i_rng1, i_rng2, i_enm, b_nil, b_cons, s_exp, s_doc, s_pass, s_brk, s_cont, s_never, s_set, s_asg, g_var, g_sub, g_tup, gs_nil, gs_cons, s_par, s_ret, s_retF, s_retN, s_ite, s_for, for_nil, s_attr, w_prp, w_dun, w_fmt, w_fst, js_nil, js_cons, w_xisi, s_raise0, s_par3, p_add, p_addS, p_addT, p_addL, p_addB, p_sub, p_mul, p_mulL, p_fdiv, p_mod, p_pow, p_neg, p_eqI, p_neI, p_eqS, p_neS, p_eqB, p_lt, p_le, p_gt, p_ge, p_isN, p_isNN, p_isB, p_isNB, p_inT, p_ninT, p_ninK, p_ixL, p_ixT, p_ixK, p_ixG, p_ixR, p_put, p_slL, p_slT, p_lenL, p_lenT, p_lenS, p_intI, p_abs, p_max, p_min, p_divmod, p_tupT, p_tupL, p_tupR, p_all, p_any, p_repr, p_isi, p_app, p_idx, p_itL, p_itT, p_rng1, p_rng2, p_enmT, p_enmL, p_fmtS, p_fmtI, p_dlenI, p_dreprI, p_dboolI, p_dlenL, p_dlenT, p_dlenS, p_dreprL, p_dreprT, p_dreprS, p_dreprN, p_dreprB, p_dreprO, p_dboolN, p_dboolB, p_dboolL, p_strI, p_strS, oto_some, slTo_v, tst_bl, asInt_int, asBl_bl, asLst_l, asRef_r, asL_l, asStr_s, asExn_e, List.set_cons_zero, List.set_cons_succ, List.getElem?_cons_zero, List.getElem?_cons_succ, List.length_cons, List.length_nil, List.nil_append, List.cons_append, List.append_nil, List.getElem?_set_self, List.length_set, List.set_set, p_dzip, p_putA, asIns_i, tn_non, tn_bl, tn_int, tn_str, tn_tup, tn_lst, tn_dK, tn_ins, asTn_ty, asTn_glo, tru_bl, tru_non, tru_int, tru_lst, tru_tup, truP_bl, truP_non, truP_int, truP_lst, truP_tup, isNon_non, isNon_int, isNon_tup, isNon_lst, isNon_str, isNon_ins, seqD_tup, seqD_lst, insOf_ins, atI_0, atI_1, atI_2, atI_3, atI_4, ixN_0, ixN_1, ixN_2, ixN_3, ixN_4]
        exact ⟨tz, _, _, _, _, _, _, (by first | rfl | exact True.intro), (by first | rfl | exact True.intro), (by first | rfl | exact True.intro)⟩
  · rintro ρ st7 ⟨tz, x6, x7, x8, x9, x10, x11, a2, rfl, rfl⟩
    try simp only [w_var, w_int, w_bl, w_non, w_str, w_gl, w_ty, w_bin, w_un, w_cmp, w_chain, w_and, w_or, w_not, w_ife, ev_nil, ev_cons, w_tup, w_lst, w_lstM, w_ix, part_nop, w_sl, w_bi, w_call, w_callS, w_meth, w_op, w_attr, w_app, w_idx, w_dzip, w_lc, w_lcM, w_tru, w_nott, w_andt, w_ort, i_itv, i_rng1, i_rng2, i_enm, b_nil, b_cons, s_exp, s_doc, s_pass, s_brk, s_cont, s_never, s_set, s_asg, g_var, g_sub, g_tup, gs_nil, gs_cons, s_par, s_ret, s_retF, s_retN, s_ite, s_for, for_nil, s_attr, w_prp, w_dun, w_fmt, w_fst, js_nil, js_cons, w_xisi, s_raise0, s_par3, p_add, p_addS, p_addT, p_addL, p_addB, p_sub, p_mul, p_mulL, p_fdiv, p_mod, p_pow, p_neg, p_eqI, p_neI, p_eqS, p_neS, p_eqB, p_lt, p_le, p_gt, p_ge, p_isN, p_isNN, p_isB, p_isNB, p_inT, p_ninT, p_ninK, p_ixL, p_ixT, p_ixK, p_ixG, p_ixR, p_put, p_slL, p_slT, p_lenL, p_lenT, p_lenS, p_intI, p_abs, p_max, p_min, p_divmod, p_tupT, p_tupL, p_tupR, p_all, p_any, p_repr, p_isi, p_app, p_idx, p_itL, p_itT, p_rng1, p_rng2, p_enmT, p_enmL, p_fmtS, p_fmtI, p_dlenI, p_dreprI, p_dboolI, p_dlenL, p_dlenT, p_dlenS, p_dreprL, p_dreprT, p_dreprS, p_dreprN, p_dreprB, p_dreprO, p_dboolN, p_dboolB, p_dboolL, p_strI, p_strS, oto_some, slTo_v, tst_bl, asInt_int, asBl_bl, asLst_l, asRef_r, asL_l, asStr_s, asExn_e, List.set_cons_zero, List.set_cons_succ, List.getElem?_cons_zero, List.getElem?_cons_succ, List.length_cons, List.length_nil, List.nil_append, List.cons_append, List.append_nil, List.getElem?_set_self, List.length_set, List.set_set, p_dzip, p_putA, asIns_i, tn_non, tn_bl, tn_int, tn_str, tn_tup, tn_lst, tn_dK, tn_ins, asTn_ty, asTn_glo, tru_bl, tru_non, tru_int, tru_lst, tru_tup, truP_bl, truP_non, truP_int, truP_lst, truP_tup, isNon_non, isNon_int, isNon_tup, isNon_lst, isNon_str, isNon_ins, seqD_tup, seqD_lst, insOf_ins, atI_0, atI_1, atI_2, atI_3, atI_4, ixN_0, ixN_1, ixN_2, ixN_3, ixN_4]
    refine ⟨True.intro, R.to_mono (draw h5 (by omega) (by decide) (by decide)) ?_⟩
    rintro _ st8 ⟨⟨v, rfl, v0, v1⟩, h8, f8⟩
    try simp only [w_var, w_int, w_bl, w_non, w_str, w_gl, w_ty, w_bin, w_un, w_cmp, w_chain, w_and, w_or, w_not, w_ife, ev_nil, ev_cons, w_tup, w_lst, w_lstM, w_ix, part_nop, w_sl, w_bi, w_call, w_callS, w_meth, w_op, w_attr, w_app, w_idx, w_dzip, w_lc, w_lcM, w_tru, w_nott, w_andt, w_ort, i_itv, i_rng1, i_rng2, i_enm, b_nil, b_cons, s_exp, s_doc, s_pass, s_brk, s_cont, s_never, s_set, s_asg, g_var, g_sub, g_tup, gs_nil, gs_cons, s_par, s_ret, s_retF, s_retN, s_ite, s_for, for_nil, s_attr, w_prp, w_dun, w_fmt, w_fst, js_nil, js_cons, w_xisi, s_raise0, s_par3, p_add, p_addS, p_addT, p_addL, p_addB, p_sub, p_mul, p_mulL, p_fdiv, p_mod, p_pow, p_neg, p_eqI, p_neI, p_eqS, p_neS, p_eqB, p_lt, p_le, p_gt, p_ge, p_isN, p_isNN, p_isB, p_isNB, p_inT, p_ninT, p_ninK, p_ixL, p_ixT, p_ixK, p_ixG, p_ixR, p_put, p_slL, p_slT, p_lenL, p_lenT, p_lenS, p_intI, p_abs, p_max, p_min, p_divmod, p_tupT, p_tupL, p_tupR, p_all, p_any, p_repr, p_isi, p_app, p_idx, p_itL, p_itT, p_rng1, p_rng2, p_enmT, p_enmL, p_fmtS, p_fmtI, p_dlenI, p_dreprI, p_dboolI, p_dlenL, p_dlenT, p_dlenS, p_dreprL, p_dreprT, p_dreprS, p_dreprN, p_dreprB, p_dreprO, p_dboolN, p_dboolB, p_dboolL, p_strI, p_strS, oto_some, slTo_v, tst_bl, asInt_int, asBl_bl, asLst_l, asRef_r, asL_l, asStr_s, asExn_e, List.set_cons_zero, List.set_cons_succ, List.getElem?_cons_zero, List.getElem?_cons_succ, List.length_cons, List.length_nil, List.nil_append, List.cons_append, List.append_nil, List.getElem?_set_self, List.length_set, List.set_set, p_dzip, p_putA, asIns_i, tn_non, tn_bl, tn_int, tn_str, tn_tup, tn_lst, tn_dK, tn_ins, asTn_ty, asTn_glo, tru_bl, tru_non, tru_int, tru_lst, tru_tup, truP_bl, truP_non, truP_int, truP_lst, truP_tup, isNon_non, isNon_int, isNon_tup, isNon_lst, isNon_str, isNon_ins, seqD_tup, seqD_lst, insOf_ins, atI_0, atI_1, atI_2, atI_3, atI_4, ixN_0, ixN_1, ixN_2, ixN_3, ixN_4]
    have qc := circle (k := k + 4) (st := st8) (by' := 1 + v) h8 (by omega) w5 (by omega)
    refine ⟨True.intro, R.to_mono qc ?_⟩
    rintro _ st9 ⟨⟨cs, rfl, tn, lc⟩, h9, f9⟩
    try simp only [w_var, w_int, w_bl, w_non, w_str, w_gl, w_ty, w_bin, w_un, w_cmp, w_chain, w_and, w_or, w_not, w_ife, ev_nil, ev_cons, w_tup, w_lst, w_lstM, w_ix, part_nop, w_sl, w_bi, w_call, w_callS, w_meth, w_op, w_attr, w_app, w_idx, w_dzip, w_lc, w_lcM, w_tru, w_nott, w_andt, w_ort, i_itv, i_rng1, i_rng2, i_enm, b_nil, b_cons, s_exp, s_doc, s_pass, s_brk, s_cont, s_never, s_set, s_asg, g_var, g_sub, g_tup, gs_nil, gs_cons, s_par, s_ret, s_retF, s_retN, s_ite, s_for, for_nil, s_attr, w_prp, w_dun, w_fmt, w_fst, js_nil, js_cons, w_xisi, s_raise0, s_par3, p_add, p_addS, p_addT, p_addL, p_addB, p_sub, p_mul, p_mulL, p_fdiv, p_mod, p_pow, p_neg, p_eqI, p_neI, p_eqS, p_neS, p_eqB, p_lt, p_le, p_gt, p_ge, p_isN, p_isNN, p_isB, p_isNB, p_inT, p_ninT, p_ninK, p_ixL, p_ixT, p_ixK, p_ixG, p_ixR, p_put, p_slL, p_slT, p_lenL, p_lenT, p_lenS, p_intI, p_abs, p_max, p_min, p_divmod, p_tupT, p_tupL, p_tupR, p_all, p_any, p_repr, p_isi, p_app, p_idx, p_itL, p_itT, p_rng1, p_rng2, p_enmT, p_enmL, p_fmtS, p_fmtI, p_dlenI, p_dreprI, p_dboolI, p_dlenL, p_dlenT, p_dlenS, p_dreprL, p_dreprT, p_dreprS, p_dreprN, p_dreprB, p_dreprO, p_dboolN, p_dboolB, p_dboolL, p_strI, p_strS, oto_some, slTo_v, tst_bl, asInt_int, asBl_bl, asLst_l, asRef_r, asL_l, asStr_s, asExn_e, List.set_cons_zero, List.set_cons_succ, List.getElem?_cons_zero, List.getElem?_cons_succ, List.length_cons, List.length_nil, List.nil_append, List.cons_append, List.append_nil, List.getElem?_set_self, List.length_set, List.set_set, p_dzip, p_putA, asIns_i, tn_non, tn_bl, tn_int, tn_str, tn_tup, tn_lst, tn_dK, tn_ins, asTn_ty, asTn_glo, tru_bl, tru_non, tru_int, tru_lst, tru_tup, truP_bl, truP_non, truP_int, truP_lst, truP_tup, isNon_non, isNon_int, isNon_tup, isNon_lst, isNon_str, isNon_ins, seqD_tup, seqD_lst, insOf_ins, atI_0, atI_1, atI_2, atI_3, atI_4, ixN_0, ixN_1, ixN_2, ixN_3, ixN_4]
    have qm := made (k := k) (st := st9) tn.1 (by omega)
    refine ⟨True.intro, R.to_mono qm ?_⟩
    rintro _ st10 ⟨rfl, f10⟩
    rw [op_f]
    try simp only [w_var, w_int, w_bl, w_non, w_str, w_gl, w_ty, w_bin, w_un, w_cmp, w_chain, w_and, w_or, w_not, w_ife, ev_nil, ev_cons, w_tup, w_lst, w_lstM, w_ix, part_nop, w_sl, w_bi, w_call, w_callS, w_meth, w_op, w_attr, w_app, w_idx, w_dzip, w_lc, w_lcM, w_tru, w_nott, w_andt, w_ort, i_itv, i_rng1, i_rng2, i_enm, b_nil, b_cons, s_exp, s_doc, s_pass, s_brk, s_cont, s_never, s_set, s_asg, g_var, g_sub, g_tup, gs_nil, gs_cons, s_par, s_ret, s_retF, s_retN, s_ite, s_for, for_nil, s_attr, w_prp, w_dun, w_fmt, w_fst, js_nil, js_cons, w_xisi, s_raise0, s_par3, p_add, p_addS, p_addT, p_addL, p_addB, p_sub, p_mul, p_mulL, p_fdiv, p_mod, p_pow, p_neg, p_eqI, p_neI, p_eqS, p_neS, p_eqB, p_lt, p_le, p_gt, p_ge, p_isN, p_isNN, p_isB, p_isNB, p_inT, p_ninT, p_ninK, p_ixL, p_ixT, p_ixK, p_ixG, p_ixR, p_put, p_slL, p_slT, p_lenL, p_lenT, p_lenS, p_intI, p_abs, p_max, p_min, p_divmod, p_tupT, p_tupL, p_tupR, p_all, p_any, p_repr, p_isi, p_app, p_idx, p_itL, p_itT, p_rng1, p_rng2, p_enmT, p_enmL, p_fmtS, p_fmtI, p_dlenI, p_dreprI, p_dboolI, p_dlenL, p_dlenT, p_dlenS, p_dreprL, p_dreprT, p_dreprS, p_dreprN, p_dreprB, p_dreprO, p_dboolN, p_dboolB, p_dboolL, p_strI, p_strS, oto_some, slTo_v, tst_bl, asInt_int, asBl_bl, asLst_l, asRef_r, asL_l, asStr_s, asExn_e, List.set_cons_zero, List.set_cons_succ, List.getElem?_cons_zero, List.getElem?_cons_succ, List.length_cons, List.length_nil, List.nil_append, List.cons_append, List.append_nil, List.getElem?_set_self, List.length_set, List.set_set, p_dzip, p_putA, asIns_i, tn_non, tn_bl, tn_int, tn_str, tn_tup, tn_lst, tn_dK, tn_ins, asTn_ty, asTn_glo, tru_bl, tru_non, tru_int, tru_lst, tru_tup, truP_bl, truP_non, truP_int, truP_lst, truP_tup, isNon_non, isNon_int, isNon_tup, isNon_lst, isNon_str, isNon_ins, seqD_tup, seqD_lst, insOf_ins, atI_0, atI_1, atI_2, atI_3, atI_4, ixN_0, ixN_1, ixN_2, ixN_3, ixN_4]
    have qb := both (k := k + 1) (st := st10) hf tn.1 (Nat.le_trans (show fs.length + cs.length ≤ 13 by omega) (by decide))
    refine R.to_mono qb ?_
    rintro _ st11 ⟨rfl, f11⟩
    try simp only [w_var, w_int, w_bl, w_non, w_str, w_gl, w_ty, w_bin, w_un, w_cmp, w_chain, w_and, w_or, w_not, w_ife, ev_nil, ev_cons, w_tup, w_lst, w_lstM, w_ix, part_nop, w_sl, w_bi, w_call, w_callS, w_meth, w_op, w_attr, w_app, w_idx, w_dzip, w_lc, w_lcM, w_tru, w_nott, w_andt, w_ort, i_itv, i_rng1, i_rng2, i_enm, b_nil, b_cons, s_exp, s_doc, s_pass, s_brk, s_cont, s_never, s_set, s_asg, g_var, g_sub, g_tup, gs_nil, gs_cons, s_par, s_ret, s_retF, s_retN, s_ite, s_for, for_nil, s_attr, w_prp, w_dun, w_fmt, w_fst, js_nil, js_cons, w_xisi, s_raise0, s_par3, p_add, p_addS, p_addT, p_addL, p_addB, p_sub, p_mul, p_mulL, p_fdiv, p_mod, p_pow, p_neg, p_eqI, p_neI, p_eqS, p_neS, p_eqB, p_lt, p_le, p_gt, p_ge, p_isN, p_isNN, p_isB, p_isNB, p_inT, p_ninT, p_ninK, p_ixL, p_ixT, p_ixK, p_ixG, p_ixR, p_put, p_slL, p_slT, p_lenL, p_lenT, p_lenS, p_intI, p_abs, p_max, p_min, p_divmod, p_tupT, p_tupL, p_tupR, p_all, p_any, p_repr, p_isi, p_app, p_idx, p_itL, p_itT, p_rng1, p_rng2, p_enmT, p_enmL, p_fmtS, p_fmtI, p_dlenI, p_dreprI, p_dboolI, p_dlenL, p_dlenT, p_dlenS, p_dreprL, p_dreprT, p_dreprS, p_dreprN, p_dreprB, p_dreprO, p_dboolN, p_dboolB, p_dboolL, p_strI, p_strS, oto_some, slTo_v, tst_bl, asInt_int, asBl_bl, asLst_l, asRef_r, asL_l, asStr_s, asExn_e, List.set_cons_zero, List.set_cons_succ, List.getElem?_cons_zero, List.getElem?_cons_succ, List.length_cons, List.length_nil, List.nil_append, List.cons_append, List.append_nil, List.getElem?_set_self, List.length_set, List.set_set, p_dzip, p_putA, asIns_i, tn_non, tn_bl, tn_int, tn_str, tn_tup, tn_lst, tn_dK, tn_ins, asTn_ty, asTn_glo, tru_bl, tru_non, tru_int, tru_lst, tru_tup, truP_bl, truP_non, truP_int, truP_lst, truP_tup, isNon_non, isNon_int, isNon_tup, isNon_lst, isNon_str, isNon_ins, seqD_tup, seqD_lst, insOf_ins, atI_0, atI_1, atI_2, atI_3, atI_4, ixN_0, ixN_1, ixN_2, ixN_3, ixN_4]
    have tb : tabF (fs ++ cs) = none := by
      obtain ⟨k1, x, w, n, hx, k2, k3⟩ := tn
      refine SP.steps_torn (fun f hm => ?_) hx (k2.mono fun f hm => List.mem_append_right _ hm) k3
      rcases List.mem_append.mp hm with hm | hm
      · exact ins f hm
      · exact ⟨(k1 f hm).1, (k1 f hm).2.1⟩
    have h11 := (h9.fr f10).fr f11
    have fr11 : FrS l st st11 := fr.trans (f8.trans (f9.trans (f10.s.trans f11.s)))
    refine ⟨True.intro, R.to_mono (draw h11 (by omega) (by decide) (by decide)) ?_⟩
    rintro _ st12 ⟨⟨x, rfl, x0, x1⟩, h12, f12⟩
    have nx := at_nm x x0 x1
    try simp only [w_var, w_int, w_bl, w_non, w_str, w_gl, w_ty, w_bin, w_un, w_cmp, w_chain, w_and, w_or, w_not, w_ife, ev_nil, ev_cons, w_tup, w_lst, w_lstM, w_ix, part_nop, w_sl, w_bi, w_call, w_callS, w_meth, w_op, w_attr, w_app, w_idx, w_dzip, w_lc, w_lcM, w_tru, w_nott, w_andt, w_ort, i_itv, i_rng1, i_rng2, i_enm, b_nil, b_cons, s_exp, s_doc, s_pass, s_brk, s_cont, s_never, s_set, s_asg, g_var, g_sub, g_tup, gs_nil, gs_cons, s_par, s_ret, s_retF, s_retN, s_ite, s_for, for_nil, s_attr, w_prp, w_dun, w_fmt, w_fst, js_nil, js_cons, w_xisi, s_raise0, s_par3, p_add, p_addS, p_addT, p_addL, p_addB, p_sub, p_mul, p_mulL, p_fdiv, p_mod, p_pow, p_neg, p_eqI, p_neI, p_eqS, p_neS, p_eqB, p_lt, p_le, p_gt, p_ge, p_isN, p_isNN, p_isB, p_isNB, p_inT, p_ninT, p_ninK, p_ixL, p_ixT, p_ixK, p_ixG, p_ixR, p_put, p_slL, p_slT, p_lenL, p_lenT, p_lenS, p_intI, p_abs, p_max, p_min, p_divmod, p_tupT, p_tupL, p_tupR, p_all, p_any, p_repr, p_isi, p_app, p_idx, p_itL, p_itT, p_rng1, p_rng2, p_enmT, p_enmL, p_fmtS, p_fmtI, p_dlenI, p_dreprI, p_dboolI, p_dlenL, p_dlenT, p_dlenS, p_dreprL, p_dreprT, p_dreprS, p_dreprN, p_dreprB, p_dreprO, p_dboolN, p_dboolB, p_dboolL, p_strI, p_strS, oto_some, slTo_v, tst_bl, asInt_int, asBl_bl, asLst_l, asRef_r, asL_l, asStr_s, asExn_e, List.set_cons_zero, List.set_cons_succ, List.getElem?_cons_zero, List.getElem?_cons_succ, List.length_cons, List.length_nil, List.nil_append, List.cons_append, List.append_nil, nx, List.getElem?_set_self, List.length_set, List.set_set, p_dzip, p_putA, asIns_i, tn_non, tn_bl, tn_int, tn_str, tn_tup, tn_lst, tn_dK, tn_ins, asTn_ty, asTn_glo, tru_bl, tru_non, tru_int, tru_lst, tru_tup, truP_bl, truP_non, truP_int, truP_lst, truP_tup, isNon_non, isNon_int, isNon_tup, isNon_lst, isNon_str, isNon_ins, seqD_tup, seqD_lst, insOf_ins, atI_0, atI_1, atI_2, atI_3, atI_4, ixN_0, ixN_1, ixN_2, ixN_3, ixN_4]
    refine ⟨True.intro, R.to_mono (draw h12 (by omega) (by decide) (by decide)) ?_⟩
    rintro _ st13 ⟨⟨y, rfl, y0, y1⟩, h13, f13⟩
    have ny := at_nm y y0 y1
    try simp only [w_var, w_int, w_bl, w_non, w_str, w_gl, w_ty, w_bin, w_un, w_cmp, w_chain, w_and, w_or, w_not, w_ife, ev_nil, ev_cons, w_tup, w_lst, w_lstM, w_ix, part_nop, w_sl, w_bi, w_call, w_callS, w_meth, w_op, w_attr, w_app, w_idx, w_dzip, w_lc, w_lcM, w_tru, w_nott, w_andt, w_ort, i_itv, i_rng1, i_rng2, i_enm, b_nil, b_cons, s_exp, s_doc, s_pass, s_brk, s_cont, s_never, s_set, s_asg, g_var, g_sub, g_tup, gs_nil, gs_cons, s_par, s_ret, s_retF, s_retN, s_ite, s_for, for_nil, s_attr, w_prp, w_dun, w_fmt, w_fst, js_nil, js_cons, w_xisi, s_raise0, s_par3, p_add, p_addS, p_addT, p_addL, p_addB, p_sub, p_mul, p_mulL, p_fdiv, p_mod, p_pow, p_neg, p_eqI, p_neI, p_eqS, p_neS, p_eqB, p_lt, p_le, p_gt, p_ge, p_isN, p_isNN, p_isB, p_isNB, p_inT, p_ninT, p_ninK, p_ixL, p_ixT, p_ixK, p_ixG, p_ixR, p_put, p_slL, p_slT, p_lenL, p_lenT, p_lenS, p_intI, p_abs, p_max, p_min, p_divmod, p_tupT, p_tupL, p_tupR, p_all, p_any, p_repr, p_isi, p_app, p_idx, p_itL, p_itT, p_rng1, p_rng2, p_enmT, p_enmL, p_fmtS, p_fmtI, p_dlenI, p_dreprI, p_dboolI, p_dlenL, p_dlenT, p_dlenS, p_dreprL, p_dreprT, p_dreprS, p_dreprN, p_dreprB, p_dreprO, p_dboolN, p_dboolB, p_dboolL, p_strI, p_strS, oto_some, slTo_v, tst_bl, asInt_int, asBl_bl, asLst_l, asRef_r, asL_l, asStr_s, asExn_e, List.set_cons_zero, List.set_cons_succ, List.getElem?_cons_zero, List.getElem?_cons_succ, List.length_cons, List.length_nil, List.nil_append, List.cons_append, List.append_nil, ny, List.getElem?_set_self, List.length_set, List.set_set, p_dzip, p_putA, asIns_i, tn_non, tn_bl, tn_int, tn_str, tn_tup, tn_lst, tn_dK, tn_ins, asTn_ty, asTn_glo, tru_bl, tru_non, tru_int, tru_lst, tru_tup, truP_bl, truP_non, truP_int, truP_lst, truP_tup, isNon_non, isNon_int, isNon_tup, isNon_lst, isNon_str, isNon_ins, seqD_tup, seqD_lst, insOf_ins, atI_0, atI_1, atI_2, atI_3, atI_4, ixN_0, ixN_1, ixN_2, ixN_3, ixN_4]
    have hx : x.toNat < 5 := by omega
    have hy : y.toNat < 5 := by omega
    have q := lawBound (k := k + 4) (st := st13) (fs := fs ++ cs) (w := 0) hx hy
    refine ⟨True.intro, R.to_mono q ?_⟩
    rintro _ st14 ⟨rfl, e14⟩
    have e14 := e14.symm
    subst e14
    rw [tb]
    unfold told
    try simp only [w_var, w_int, w_bl, w_non, w_str, w_gl, w_ty, w_bin, w_un, w_cmp, w_chain, w_and, w_or, w_not, w_ife, ev_nil, ev_cons, w_tup, w_lst, w_lstM, w_ix, part_nop, w_sl, w_bi, w_call, w_callS, w_meth, w_op, w_attr, w_app, w_idx, w_dzip, w_lc, w_lcM, w_tru, w_nott, w_andt, w_ort, i_itv, i_rng1, i_rng2, i_enm, b_nil, b_cons, s_exp, s_doc, s_pass, s_brk, s_cont, s_never, s_set, s_asg, g_var, g_sub, g_tup, gs_nil, gs_cons, s_par, s_ret, s_retF, s_retN, s_ite, s_for, for_nil, s_attr, w_prp, w_dun, w_fmt, w_fst, js_nil, js_cons, w_xisi, s_raise0, s_par3, p_add, p_addS, p_addT, p_addL, p_addB, p_sub, p_mul, p_mulL, p_fdiv, p_mod, p_pow, p_neg, p_eqI, p_neI, p_eqS, p_neS, p_eqB, p_lt, p_le, p_gt, p_ge, p_isN, p_isNN, p_isB, p_isNB, p_inT, p_ninT, p_ninK, p_ixL, p_ixT, p_ixK, p_ixG, p_ixR, p_put, p_slL, p_slT, p_lenL, p_lenT, p_lenS, p_intI, p_abs, p_max, p_min, p_divmod, p_tupT, p_tupL, p_tupR, p_all, p_any, p_repr, p_isi, p_app, p_idx, p_itL, p_itT, p_rng1, p_rng2, p_enmT, p_enmL, p_fmtS, p_fmtI, p_dlenI, p_dreprI, p_dboolI, p_dlenL, p_dlenT, p_dlenS, p_dreprL, p_dreprT, p_dreprS, p_dreprN, p_dreprB, p_dreprO, p_dboolN, p_dboolB, p_dboolL, p_strI, p_strS, oto_some, slTo_v, tst_bl, asInt_int, asBl_bl, asLst_l, asRef_r, asL_l, asStr_s, asExn_e, List.set_cons_zero, List.set_cons_succ, List.getElem?_cons_zero, List.getElem?_cons_succ, List.length_cons, List.length_nil, List.nil_append, List.cons_append, List.append_nil, cmp_imp, List.getElem?_set_self, List.length_set, List.set_set, p_dzip, p_putA, asIns_i, tn_non, tn_bl, tn_int, tn_str, tn_tup, tn_lst, tn_dK, tn_ins, asTn_ty, asTn_glo, tru_bl, tru_non, tru_int, tru_lst, tru_tup, truP_bl, truP_non, truP_int, truP_lst, truP_tup, isNon_non, isNon_int, isNon_tup, isNon_lst, isNon_str, isNon_ins, seqD_tup, seqD_lst, insOf_ins, atI_0, atI_1, atI_2, atI_3, atI_4, ixN_0, ixN_1, ixN_2, ixN_3, ixN_4]
    refine ⟨by decide, fun _ => ⟨True.intro, ?_⟩, fun z => by (cases z)⟩
    have q := lawBound (k := k + 4) (st := st13) (fs := fs ++ cs) (w := 1) hx hx
    refine R.to_mono q ?_
    rintro _ st14 ⟨rfl, e14⟩
    have e14 := e14.symm
    subst e14
    rw [tb]
    unfold told
    try simp only [w_var, w_int, w_bl, w_non, w_str, w_gl, w_ty, w_bin, w_un, w_cmp, w_chain, w_and, w_or, w_not, w_ife, ev_nil, ev_cons, w_tup, w_lst, w_lstM, w_ix, part_nop, w_sl, w_bi, w_call, w_callS, w_meth, w_op, w_attr, w_app, w_idx, w_dzip, w_lc, w_lcM, w_tru, w_nott, w_andt, w_ort, i_itv, i_rng1, i_rng2, i_enm, b_nil, b_cons, s_exp, s_doc, s_pass, s_brk, s_cont, s_never, s_set, s_asg, g_var, g_sub, g_tup, gs_nil, gs_cons, s_par, s_ret, s_retF, s_retN, s_ite, s_for, for_nil, s_attr, w_prp, w_dun, w_fmt, w_fst, js_nil, js_cons, w_xisi, s_raise0, s_par3, p_add, p_addS, p_addT, p_addL, p_addB, p_sub, p_mul, p_mulL, p_fdiv, p_mod, p_pow, p_neg, p_eqI, p_neI, p_eqS, p_neS, p_eqB, p_lt, p_le, p_gt, p_ge, p_isN, p_isNN, p_isB, p_isNB, p_inT, p_ninT, p_ninK, p_ixL, p_ixT, p_ixK, p_ixG, p_ixR, p_put, p_slL, p_slT, p_lenL, p_lenT, p_lenS, p_intI, p_abs, p_max, p_min, p_divmod, p_tupT, p_tupL, p_tupR, p_all, p_any, p_repr, p_isi, p_app, p_idx, p_itL, p_itT, p_rng1, p_rng2, p_enmT, p_enmL, p_fmtS, p_fmtI, p_dlenI, p_dreprI, p_dboolI, p_dlenL, p_dlenT, p_dlenS, p_dreprL, p_dreprT, p_dreprS, p_dreprN, p_dreprB, p_dreprO, p_dboolN, p_dboolB, p_dboolL, p_strI, p_strS, oto_some, slTo_v, tst_bl, asInt_int, asBl_bl, asLst_l, asRef_r, asL_l, asStr_s, asExn_e, List.set_cons_zero, List.set_cons_succ, List.getElem?_cons_zero, List.getElem?_cons_succ, List.length_cons, List.length_nil, List.nil_append, List.cons_append, List.append_nil, cmp_imp, List.getElem?_set_self, List.length_set, List.set_set, p_dzip, p_putA, asIns_i, tn_non, tn_bl, tn_int, tn_str, tn_tup, tn_lst, tn_dK, tn_ins, asTn_ty, asTn_glo, tru_bl, tru_non, tru_int, tru_lst, tru_tup, truP_bl, truP_non, truP_int, truP_lst, truP_tup, isNon_non, isNon_int, isNon_tup, isNon_lst, isNon_str, isNon_ins, seqD_tup, seqD_lst, insOf_ins, atI_0, atI_1, atI_2, atI_3, atI_4, ixN_0, ixN_1, ixN_2, ixN_3, ixN_4]
    refine ⟨by decide, ?_⟩
    exact ⟨rfl, fr11.trans (f12.trans f13)⟩
theorem e28 : (S (k + 1) 28 [] [a] st).to Q = (denB lw.tb (S k) is28 [.v a, .un] st).to (endPo Q) := enter (d := d28) (xs := [a]) rfl rfl
theorem law {ns : List Int} : (S 12 28 [] [.lst (ns.map .int)] st).to fun d st' => d = .bl true := by
  rw [show S 12 = S (11 + 1) from rfl, e28]
  unfold is28
  try simp only [w_var, w_int, w_bl, w_non, w_str, w_gl, w_ty, w_bin, w_un, w_cmp, w_chain, w_and, w_or, w_not, w_ife, ev_nil, ev_cons, w_tup, w_lst, w_lstM, w_ix, part_nop, w_sl, w_bi, w_call, w_callS, w_meth, w_op, w_attr, w_app, w_idx, w_dzip, w_lc, w_lcM, w_tru, w_nott, w_andt, w_ort, i_itv, i_rng1, i_rng2, i_enm, b_nil, b_cons, s_exp, s_doc, s_pass, s_brk, s_cont, s_never, s_set, s_asg, g_var, g_sub, g_tup, gs_nil, gs_cons, s_par, s_ret, s_retF, s_retN, s_ite, s_for, for_nil, s_attr, w_prp, w_dun, w_fmt, w_fst, js_nil, js_cons, w_xisi, s_raise0, s_par3, p_add, p_addS, p_addT, p_addL, p_addB, p_sub, p_mul, p_mulL, p_fdiv, p_mod, p_pow, p_neg, p_eqI, p_neI, p_eqS, p_neS, p_eqB, p_lt, p_le, p_gt, p_ge, p_isN, p_isNN, p_isB, p_isNB, p_inT, p_ninT, p_ninK, p_ixL, p_ixT, p_ixK, p_ixG, p_ixR, p_put, p_slL, p_slT, p_lenL, p_lenT, p_lenS, p_intI, p_abs, p_max, p_min, p_divmod, p_tupT, p_tupL, p_tupR, p_all, p_any, p_repr, p_isi, p_app, p_idx, p_itL, p_itT, p_rng1, p_rng2, p_enmT, p_enmL, p_fmtS, p_fmtI, p_dlenI, p_dreprI, p_dboolI, p_dlenL, p_dlenT, p_dlenS, p_dreprL, p_dreprT, p_dreprS, p_dreprN, p_dreprB, p_dreprO, p_dboolN, p_dboolB, p_dboolL, p_strI, p_strS, oto_some, slTo_v, tst_bl, asInt_int, asBl_bl, asLst_l, asRef_r, asL_l, asStr_s, asExn_e, List.set_cons_zero, List.set_cons_succ, List.getElem?_cons_zero, List.getElem?_cons_succ, List.length_cons, List.length_nil, List.nil_append, List.cons_append, List.append_nil, List.getElem?_set_self, List.length_set, List.set_set, p_dzip, p_putA, asIns_i, tn_non, tn_bl, tn_int, tn_str, tn_tup, tn_lst, tn_dK, tn_ins, asTn_ty, asTn_glo, tru_bl, tru_non, tru_int, tru_lst, tru_tup, truP_bl, truP_non, truP_int, truP_lst, truP_tup, isNon_non, isNon_int, isNon_tup, isNon_lst, isNon_str, isNon_ins, seqD_tup, seqD_lst, insOf_ins, atI_0, atI_1, atI_2, atI_3, atI_4, ixN_0, ixN_1, ixN_2, ixN_3, ixN_4]
  refine ⟨True.intro, R.to_mono (pools (k := 9) (by decide) (by decide)) ?_⟩
  rintro _ st5 ⟨ds, rfl, ls, rfl, nd, hp, lz⟩
  try simp only [w_var, w_int, w_bl, w_non, w_str, w_gl, w_ty, w_bin, w_un, w_cmp, w_chain, w_and, w_or, w_not, w_ife, ev_nil, ev_cons, w_tup, w_lst, w_lstM, w_ix, part_nop, w_sl, w_bi, w_call, w_callS, w_meth, w_op, w_attr, w_app, w_idx, w_dzip, w_lc, w_lcM, w_tru, w_nott, w_andt, w_ort, i_itv, i_rng1, i_rng2, i_enm, b_nil, b_cons, s_exp, s_doc, s_pass, s_brk, s_cont, s_never, s_set, s_asg, g_var, g_sub, g_tup, gs_nil, gs_cons, s_par, s_ret, s_retF, s_retN, s_ite, s_for, for_nil, s_attr, w_prp, w_dun, w_fmt, w_fst, js_nil, js_cons, w_xisi, s_raise0, s_par3, p_add, p_addS, p_addT, p_addL, p_addB, p_sub, p_mul, p_mulL, p_fdiv, p_mod, p_pow, p_neg, p_eqI, p_neI, p_eqS, p_neS, p_eqB, p_lt, p_le, p_gt, p_ge, p_isN, p_isNN, p_isB, p_isNB, p_inT, p_ninT, p_ninK, p_ixL, p_ixT, p_ixK, p_ixG, p_ixR, p_put, p_slL, p_slT, p_lenL, p_lenT, p_lenS, p_intI, p_abs, p_max, p_min, p_divmod, p_tupT, p_tupL, p_tupR, p_all, p_any, p_repr, p_isi, p_app, p_idx, p_itL, p_itT, p_rng1, p_rng2, p_enmT, p_enmL, p_fmtS, p_fmtI, p_dlenI, p_dreprI, p_dboolI, p_dlenL, p_dlenT, p_dlenS, p_dreprL, p_dreprT, p_dreprS, p_dreprN, p_dreprB, p_dreprO, p_dboolN, p_dboolB, p_dboolL, p_strI, p_strS, oto_some, slTo_v, tst_bl, asInt_int, asBl_bl, asLst_l, asRef_r, asL_l, asStr_s, asExn_e, List.set_cons_zero, List.set_cons_succ, List.getElem?_cons_zero, List.getElem?_cons_succ, List.length_cons, List.length_nil, List.nil_append, List.cons_append, List.append_nil, List.getElem?_set_self, List.length_set, List.set_set, p_dzip, p_putA, asIns_i, tn_non, tn_bl, tn_int, tn_str, tn_tup, tn_lst, tn_dK, tn_ins, asTn_ty, asTn_glo, tru_bl, tru_non, tru_int, tru_lst, tru_tup, truP_bl, truP_non, truP_int, truP_lst, truP_tup, isNon_non, isNon_int, isNon_tup, isNon_lst, isNon_str, isNon_ins, seqD_tup, seqD_lst, insOf_ins, atI_0, atI_1, atI_2, atI_3, atI_4, ixN_0, ixN_1, ixN_2, ixN_3, ixN_4]
  refine lc_inv (fun ds acc st' => ∃ ls : List Nat, ds = ls.map .ref ∧ ls.Nodup ∧ (∀ l ∈ ls, Pool 0 st' l) ∧ (∃ n : Nat, acc = (List.replicate n true).map .bl ∧ n + ls.length < 1000)) ?_ ?_ _ _ _ ⟨ls, rfl, nd, hp, ⟨0, rfl, by omega⟩⟩
  · rintro d ds acc st' ⟨ls, e, nd, hp, n, rfl, lz⟩
    cases ls with
    | nil => cases e
    | cons l ls =>
      simp only [List.map_cons, List.cons.injEq] at e
      obtain ⟨rfl, rfl⟩ := e
      obtain ⟨n1, n2⟩ := List.nodup_cons.mp nd
      have lz' : n + (ls.length + 1) < 1000 := lz
      try simp only [w_var, w_int, w_bl, w_non, w_str, w_gl, w_ty, w_bin, w_un, w_cmp, w_chain, w_and, w_or, w_not, w_ife, ev_nil, ev_cons, w_tup, w_lst, w_lstM, w_ix, part_nop, w_sl, w_bi, w_call, w_callS, w_meth, w_op, w_attr, w_app, w_idx, w_dzip, w_lc, w_lcM, w_tru, w_nott, w_andt, w_ort, i_itv, i_rng1, i_rng2, i_enm, b_nil, b_cons, s_exp, s_doc, s_pass, s_brk, s_cont, s_never, s_set, s_asg, g_var, g_sub, g_tup, gs_nil, gs_cons, s_par, s_ret, s_retF, s_retN, s_ite, s_for, for_nil, s_attr, w_prp, w_dun, w_fmt, w_fst, js_nil, js_cons, w_xisi, s_raise0, s_par3, p_add, p_addS, p_addT, p_addL, p_addB, p_sub, p_mul, p_mulL, p_fdiv, p_mod, p_pow, p_neg, p_eqI, p_neI, p_eqS, p_neS, p_eqB, p_lt, p_le, p_gt, p_ge, p_isN, p_isNN, p_isB, p_isNB, p_inT, p_ninT, p_ninK, p_ixL, p_ixT, p_ixK, p_ixG, p_ixR, p_put, p_slL, p_slT, p_lenL, p_lenT, p_lenS, p_intI, p_abs, p_max, p_min, p_divmod, p_tupT, p_tupL, p_tupR, p_all, p_any, p_repr, p_isi, p_app, p_idx, p_itL, p_itT, p_rng1, p_rng2, p_enmT, p_enmL, p_fmtS, p_fmtI, p_dlenI, p_dreprI, p_dboolI, p_dlenL, p_dlenT, p_dlenS, p_dreprL, p_dreprT, p_dreprS, p_dreprN, p_dreprB, p_dreprO, p_dboolN, p_dboolB, p_dboolL, p_strI, p_strS, oto_some, slTo_v, tst_bl, asInt_int, asBl_bl, asLst_l, asRef_r, asL_l, asStr_s, asExn_e, List.set_cons_zero, List.set_cons_succ, List.getElem?_cons_zero, List.getElem?_cons_succ, List.length_cons, List.length_nil, List.nil_append, List.cons_append, List.append_nil, Tgd.set, wipeD, List.getElem?_set_self, List.length_set, List.set_set, p_dzip, p_putA, asIns_i, tn_non, tn_bl, tn_int, tn_str, tn_tup, tn_lst, tn_dK, tn_ins, asTn_ty, asTn_glo, tru_bl, tru_non, tru_int, tru_lst, tru_tup, truP_bl, truP_non, truP_int, truP_lst, truP_tup, isNon_non, isNon_int, isNon_tup, isNon_lst, isNon_str, isNon_ins, seqD_tup, seqD_lst, insOf_ins, atI_0, atI_1, atI_2, atI_3, atI_4, ixN_0, ixN_1, ixN_2, ixN_3, ixN_4]
      rw [denT_nop]
      refine ⟨fun _ => ?_, fun z => by cases z⟩
      try simp only [w_var, w_int, w_bl, w_non, w_str, w_gl, w_ty, w_bin, w_un, w_cmp, w_chain, w_and, w_or, w_not, w_ife, ev_nil, ev_cons, w_tup, w_lst, w_lstM, w_ix, part_nop, w_sl, w_bi, w_call, w_callS, w_meth, w_op, w_attr, w_app, w_idx, w_dzip, w_lc, w_lcM, w_tru, w_nott, w_andt, w_ort, i_itv, i_rng1, i_rng2, i_enm, b_nil, b_cons, s_exp, s_doc, s_pass, s_brk, s_cont, s_never, s_set, s_asg, g_var, g_sub, g_tup, gs_nil, gs_cons, s_par, s_ret, s_retF, s_retN, s_ite, s_for, for_nil, s_attr, w_prp, w_dun, w_fmt, w_fst, js_nil, js_cons, w_xisi, s_raise0, s_par3, p_add, p_addS, p_addT, p_addL, p_addB, p_sub, p_mul, p_mulL, p_fdiv, p_mod, p_pow, p_neg, p_eqI, p_neI, p_eqS, p_neS, p_eqB, p_lt, p_le, p_gt, p_ge, p_isN, p_isNN, p_isB, p_isNB, p_inT, p_ninT, p_ninK, p_ixL, p_ixT, p_ixK, p_ixG, p_ixR, p_put, p_slL, p_slT, p_lenL, p_lenT, p_lenS, p_intI, p_abs, p_max, p_min, p_divmod, p_tupT, p_tupL, p_tupR, p_all, p_any, p_repr, p_isi, p_app, p_idx, p_itL, p_itT, p_rng1, p_rng2, p_enmT, p_enmL, p_fmtS, p_fmtI, p_dlenI, p_dreprI, p_dboolI, p_dlenL, p_dlenT, p_dlenS, p_dreprL, p_dreprT, p_dreprS, p_dreprN, p_dreprB, p_dreprO, p_dboolN, p_dboolB, p_dboolL, p_strI, p_strS, oto_some, slTo_v, tst_bl, asInt_int, asBl_bl, asLst_l, asRef_r, asL_l, asStr_s, asExn_e, List.set_cons_zero, List.set_cons_succ, List.getElem?_cons_zero, List.getElem?_cons_succ, List.length_cons, List.length_nil, List.nil_append, List.cons_append, List.append_nil, List.getElem?_set_self, List.length_set, List.set_set, p_dzip, p_putA, asIns_i, tn_non, tn_bl, tn_int, tn_str, tn_tup, tn_lst, tn_dK, tn_ins, asTn_ty, asTn_glo, tru_bl, tru_non, tru_int, tru_lst, tru_tup, truP_bl, truP_non, truP_int, truP_lst, truP_tup, isNon_non, isNon_int, isNon_tup, isNon_lst, isNon_str, isNon_ins, seqD_tup, seqD_lst, insOf_ins, atI_0, atI_1, atI_2, atI_3, atI_4, ixN_0, ixN_1, ixN_2, ixN_3, ixN_4]
      refine ⟨True.intro, R.to_mono (right (k := 3) (hp l (List.mem_cons_self ..))) ?_⟩
      rintro _ st6 ⟨rfl, f6⟩
      refine ⟨Nat.lt_of_lt_of_le (show ((List.replicate n true).map DV.D.bl).length < 1000 by rw [List.length_map, List.length_replicate]; omega) (by decide), ls, rfl, n2, fun m hm => (hp m (List.mem_cons_of_mem _ hm)).frS f6 (fun e => n1 (e ▸ hm)), n + 1, ?_, by omega⟩
      rw [show List.replicate (n + 1) true = List.replicate n true ++ [true] from List.replicate_succ', List.map_append]
      rfl
  · rintro acc st' ⟨ls, e, nd, hp, n, rfl, lz⟩
    try simp only [w_var, w_int, w_bl, w_non, w_str, w_gl, w_ty, w_bin, w_un, w_cmp, w_chain, w_and, w_or, w_not, w_ife, ev_nil, ev_cons, w_tup, w_lst, w_lstM, w_ix, part_nop, w_sl, w_bi, w_call, w_callS, w_meth, w_op, w_attr, w_app, w_idx, w_dzip, w_lc, w_lcM, w_tru, w_nott, w_andt, w_ort, i_itv, i_rng1, i_rng2, i_enm, b_nil, b_cons, s_exp, s_doc, s_pass, s_brk, s_cont, s_never, s_set, s_asg, g_var, g_sub, g_tup, gs_nil, gs_cons, s_par, s_ret, s_retF, s_retN, s_ite, s_for, for_nil, s_attr, w_prp, w_dun, w_fmt, w_fst, js_nil, js_cons, w_xisi, s_raise0, s_par3, p_add, p_addS, p_addT, p_addL, p_addB, p_sub, p_mul, p_mulL, p_fdiv, p_mod, p_pow, p_neg, p_eqI, p_neI, p_eqS, p_neS, p_eqB, p_lt, p_le, p_gt, p_ge, p_isN, p_isNN, p_isB, p_isNB, p_inT, p_ninT, p_ninK, p_ixL, p_ixT, p_ixK, p_ixG, p_ixR, p_put, p_slL, p_slT, p_lenL, p_lenT, p_lenS, p_intI, p_abs, p_max, p_min, p_divmod, p_tupT, p_tupL, p_tupR, p_all, p_any, p_repr, p_isi, p_app, p_idx, p_itL, p_itT, p_rng1, p_rng2, p_enmT, p_enmL, p_fmtS, p_fmtI, p_dlenI, p_dreprI, p_dboolI, p_dlenL, p_dlenT, p_dlenS, p_dreprL, p_dreprT, p_dreprS, p_dreprN, p_dreprB, p_dreprO, p_dboolN, p_dboolB, p_dboolL, p_strI, p_strS, oto_some, slTo_v, tst_bl, asInt_int, asBl_bl, asLst_l, asRef_r, asL_l, asStr_s, asExn_e, List.set_cons_zero, List.set_cons_succ, List.getElem?_cons_zero, List.getElem?_cons_succ, List.length_cons, List.length_nil, List.nil_append, List.cons_append, List.append_nil, List.getElem?_set_self, List.length_set, List.set_set, p_dzip, p_putA, asIns_i, tn_non, tn_bl, tn_int, tn_str, tn_tup, tn_lst, tn_dK, tn_ins, asTn_ty, asTn_glo, tru_bl, tru_non, tru_int, tru_lst, tru_tup, truP_bl, truP_non, truP_int, truP_lst, truP_tup, isNon_non, isNon_int, isNon_tup, isNon_lst, isNon_str, isNon_ins, seqD_tup, seqD_lst, insOf_ins, atI_0, atI_1, atI_2, atI_3, atI_4, ixN_0, ixN_1, ixN_2, ixN_3, ixN_4]
    rw [bls_map (fun b : Bool => b)]
    try simp only [w_var, w_int, w_bl, w_non, w_str, w_gl, w_ty, w_bin, w_un, w_cmp, w_chain, w_and, w_or, w_not, w_ife, ev_nil, ev_cons, w_tup, w_lst, w_lstM, w_ix, part_nop, w_sl, w_bi, w_call, w_callS, w_meth, w_op, w_attr, w_app, w_idx, w_dzip, w_lc, w_lcM, w_tru, w_nott, w_andt, w_ort, i_itv, i_rng1, i_rng2, i_enm, b_nil, b_cons, s_exp, s_doc, s_pass, s_brk, s_cont, s_never, s_set, s_asg, g_var, g_sub, g_tup, gs_nil, gs_cons, s_par, s_ret, s_retF, s_retN, s_ite, s_for, for_nil, s_attr, w_prp, w_dun, w_fmt, w_fst, js_nil, js_cons, w_xisi, s_raise0, s_par3, p_add, p_addS, p_addT, p_addL, p_addB, p_sub, p_mul, p_mulL, p_fdiv, p_mod, p_pow, p_neg, p_eqI, p_neI, p_eqS, p_neS, p_eqB, p_lt, p_le, p_gt, p_ge, p_isN, p_isNN, p_isB, p_isNB, p_inT, p_ninT, p_ninK, p_ixL, p_ixT, p_ixK, p_ixG, p_ixR, p_put, p_slL, p_slT, p_lenL, p_lenT, p_lenS, p_intI, p_abs, p_max, p_min, p_divmod, p_tupT, p_tupL, p_tupR, p_all, p_any, p_repr, p_isi, p_app, p_idx, p_itL, p_itT, p_rng1, p_rng2, p_enmT, p_enmL, p_fmtS, p_fmtI, p_dlenI, p_dreprI, p_dboolI, p_dlenL, p_dlenT, p_dlenS, p_dreprL, p_dreprT, p_dreprS, p_dreprN, p_dreprB, p_dreprO, p_dboolN, p_dboolB, p_dboolL, p_strI, p_strS, oto_some, slTo_v, tst_bl, asInt_int, asBl_bl, asLst_l, asRef_r, asL_l, asStr_s, asExn_e, List.set_cons_zero, List.set_cons_succ, List.getElem?_cons_zero, List.getElem?_cons_succ, List.length_cons, List.length_nil, List.nil_append, List.cons_append, List.append_nil, List.getElem?_set_self, List.length_set, List.set_set, p_dzip, p_putA, asIns_i, tn_non, tn_bl, tn_int, tn_str, tn_tup, tn_lst, tn_dK, tn_ins, asTn_ty, asTn_glo, tru_bl, tru_non, tru_int, tru_lst, tru_tup, truP_bl, truP_non, truP_int, truP_lst, truP_tup, isNon_non, isNon_int, isNon_tup, isNon_lst, isNon_str, isNon_ins, seqD_tup, seqD_lst, insOf_ins, atI_0, atI_1, atI_2, atI_3, atI_4, ixN_0, ixN_1, ixN_2, ixN_3, ixN_4]
    simp
    exact rfl
end
end K22

namespace K22
open PySem PySem.W PySem.Calls PyProof.Rows DV
abbrev RR : OpenRow := OpenLaw.row PySem.Challenge.rw_crossedits_k22_bounds
abbrev qv : Program := view RR.prog [41]
def names : List PySem.Str := (["_wall", "BookError", "InvalidPlace", "InvalidLength", "InvalidFact", "InvalidPoint", "MeetError", "Impossible", "is_integer", "is_word", "check_length", "POINTS", "free_table", "follows", "follows_systems", "least_bound", "with_fact", "with_facts"] : List PySem.Str) ++ (["NUMBERS", "is_fact", "numbered", "Facts", "_law_cell", "_law_pool", "_law_draw", "_law_far", "_law_pools", "_law_names", "_law_integer", "_law_hidden", "_law_true_fact", "_law_circle", "_law_made", "_law_table", "_law_bound", "_law_right"] : List PySem.Str)
def ob (s : PySem.W.SharedT) : AlL := lw.obsG 5 (HandSHeadRun.getT s)
theorem ob_eq (s : PySem.W.SharedT) : ob s = (lw.hook 5).obs s.abs := Lw.obs_eq (HandSHeadRun.getT_eq s)
theorem run (w : World) : HandSHeadRun.RunEq RR qv (lw.hook 5) ob 6000 names w :=
  byRow2 "special-get-raises" (P := fun w => HandSHeadRun.RunEq RR qv (lw.hook 5) ob 6000 names w) (fun w => fun os => by kernel_rfl) (fun w => fun os => by kernel_rfl) w
theorem holds_of (law : ∀ ns : List Int, ns.length ≤ 63 → (∀ z ∈ ns, Builtin.Int.intBits z ≤ 1048576) → ∃ st', sem lw.tb lw.dl 12 28 [] [.lst (ns.map .int)] [] = .ok (.bl true) st') : PySem.Challenge.rw_crossedits_k22_bounds.Holds := by
  w_on; o_law
  refine HandSHeadRun.head_any (r := OpenLaw.row PySem.Challenge.rw_crossedits_k22_bounds) (q := view (OpenLaw.row PySem.Challenge.rw_crossedits_k22_bounds).prog [41]) (H := lw.hook 5) (ob := ob) (M := 6000) (loose := names) (d := HandSHeadRun.topDef (OpenLaw.row PySem.Challenge.rw_crossedits_k22_bounds).prog 41) (kwd := []) ob_eq
    (by kernel_rfl) (fun s => by kernel_rfl) run (by kernel_rfl) (by kernel_rfl) (by kernel_rfl) (by rfl) (by first | assumption | decide +kernel) (by decide +kernel) ⟨rfl, rfl, rfl, rfl, rfl, by decide +kernel⟩ ?hw ?hc
  case hw => w_witness2
  case hc =>
    have e : (HandSHeadRun.topDef (OpenLaw.row PySem.Challenge.rw_crossedits_k22_bounds).prog 41).name = ("law" : PySem.Str) := by kernel_rfl
    exact walk_ofG (l := PySem.Challenge.rw_crossedits_k22_bounds) (n := 63) (k := 12) (i := 28) (lw := lw) rfl (by decide) (by kernel_rfl) ⟨rfl, by decide, by decide⟩ (by rw [e]; rfl) ok_all law
end K22

theorem PySem.Challenge.cw_crossedits_k22_bounds_holds : PySem.Challenge.rw_crossedits_k22_bounds.Holds := by
  exact K22.holds_of fun ns _ _ => by
    obtain ⟨a, st, e, h⟩ := DV.R.to_ex (K22.law (st := []) (ns := ns))
    exact ⟨st, by rw [← h]; exact e⟩
