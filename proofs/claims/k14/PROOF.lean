import PyProof.Rows.All
import Wide.All
import OpenK.AllK
import Wide.FinOn
import HandS.ForExc
import HandS.Head0
import HandS.Head1
import HandS.Head2
import HandS.HeadEnd
import HandS.HeadHook1
import HandS.HeadHook2
import HandS.HeadHook3
import HandS.HeadHook4
import HandS.HeadWalk
import HandS.Deep
import HandS.Star
import HandS.Codes
import HandS.Conv
import HandS.Iter
import HandS.IterVal
import HandS.IsInst
import HandS.Text
import HandS.StrMore
import HandS.Lambda
import KE.SortKeyed
import PyProof.StrOps2
import HandS.TupAny
import HandS.TupMul
import HandS.Replace
import HandS.SetFor
import KE.DataFind
import KE.IntTextLaws
import PyProof.Rows.StrCountLaw
import KE.GoesMore
import KE.GoesEnum
import HandS.Style
import PyProof.Rows.SetFrom
import HandS.Zip
import HandS.ExcIs
import HandS.ExcField
import HandS.ExcOwn
import HandS.ExcInit
import KE.KExcIs
import KE.KExcSuper
import HandS.CallLocal
import PySem.Challenge.RW_undoscopes_k14_texts_refused
set_option Elab.async false
set_option linter.all false
set_option maxRecDepth 100000
set_option maxHeartbeats 0
set_option autoImplicit false
/-! EvA: data by value, how they lie in the abstract heap, states, what a step may change. -/
namespace EV
open PySem PySem.Spec PyProof.Rows L2

inductive D where
  | non | bl (b : Bool) | int (i : Int) | str (x : Str)
  | tup (xs : List D) | lst (xs : List D) | dct (ks vs : List D) | fn (n : Nat) | rf (n : Nat) | scr | exn
  deriving Inhabited

/-- the exception that a suite has in hand: where it stands, its dict, its fields -/
structure Xp where
  a : Addr
  dd : Option Addr
  fs : List (Str × V)
/-- the fixed surroundings: the program, the written part, where the defs stand -/
structure Sg where
  P : Program
  w : World
  K : PySem.W.Frag
  fa : Nat → Option Addr
  /-- the script -/
  sa : Addr
  ns : List Int
  /-- the tables of code objects -/
  T : List (Addr × Str) := []
  xp : Option Xp := none

/-- what is frozen; where the store's objects stand -/
structure Wd where
  F : Addr → Prop
  ρ : List Addr

def H0 : Hp := fun _ => none
def TupAt (S : Sg) (W : Wd) (H : Hp) (a : Addr) (vs : List V) : Prop := (W.F a ∧ Rd H a (.tup vs)) ∨ SqT S.K H0 a vs
def LstAt (_ : Sg) (W : Wd) (H : Hp) (a : Addr) (vs : List V) : Prop := W.F a ∧ H a = some (.lst vs)
theorem noRd {a : Addr} {u : HO} : ¬ Rd H0 a u := fun h => by
  rcases h with h | ⟨o, h⟩ <;> cases h
theorem SqT.of0 {K : PySem.W.Frag} {H : Hp} {a : Addr} {vs : List V} (h : SqT K H0 a vs) : SqT K H a vs := by
  rcases h with h | h
  · exact absurd h noRd
  · exact .inr h
theorem SqL.of0 {K : PySem.W.Frag} {H : Hp} {a : Addr} {vs : List V} (h : SqL K H0 a vs) : SqL K H a vs := by
  rcases h with h | h
  · exact absurd h noRd
  · exact .inr h
theorem TupAt.sq {S : Sg} {W : Wd} {H : Hp} {a : Addr} {vs : List V} (h : TupAt S W H a vs) : SqT S.K H a vs := by
  rcases h with ⟨_, h⟩ | h
  · exact .inl h
  · exact SqT.of0 h
theorem LstAt.sq {S : Sg} {W : Wd} {H : Hp} {a : Addr} {vs : List V} (h : LstAt S W H a vs) : SqL S.K H a vs := .inl (.inl h.2)

/-- the entries of a dict: the hash, the key, the value -/
abbrev Ent : Type := Int × V × V
/-- a dict's object, its entries -/
def DicO (a : Addr) (es : List Ent) : HO := .ext fun h => ∃ (xs : Array DictEntry) (n : Nat), h.get? a = some { cls := .type "dict", data := .dict xs n } ∧
  Paired (fun (p : Ent) (e : DictEntry) => e.hash = p.1 ∧ RelV p.2.1 e.key ∧ RelV p.2.2 e.val) es xs.toList
/-- a key's hash -/
def hashD (w : World) : D → Int := fun _ => 0

mutual
/-- a value that is frozen -/
def Fz (S : Sg) (W : Wd) (H : Hp) : D → V → Prop
  | .non, v => v = .non
  | .bl b, v => v = .bl b
  | .int i, v => v = .int i
  | .str x, v => v = .str x
  | .tup xs, v => ∃ a vs, v = .ref a ∧ TupAt S W H a vs ∧ FzL S W H xs vs
  | .lst xs, v => ∃ a vs, v = .ref a ∧ LstAt S W H a vs ∧ FzL S W H xs vs
  | .dct ks vs, v => ∃ a es, v = .ref a ∧ (W.F a ∧ H a = some (DicO a es)) ∧ FzL S W H ks (es.map (·.2.1)) ∧ FzL S W H vs (es.map (·.2.2))
  | .fn n, v => ∃ a, S.fa n = some a ∧ v = .ref a
  | .rf n, v => ∃ a, W.ρ[n]? = some a ∧ v = .ref a
  | .scr, v => v = .ref S.sa ∧ ((W.F S.sa ∧ Rd H S.sa (.lst (S.ns.map V.int))) ∨ SqL S.K H0 S.sa (S.ns.map V.int))
  | .exn, v => ∃ p, S.xp = some p ∧ v = .ref p.a ∧ (p.fs = [] ∨ ∃ dd, p.dd = some dd ∧ W.F dd ∧ H dd = some (.xd p.fs))
def FzL (S : Sg) (W : Wd) (H : Hp) : List D → List V → Prop
  | [], vs => vs = []
  | d :: ds, vs => ∃ v r, vs = v :: r ∧ Fz S W H d v ∧ FzL S W H ds r
end

section
variable {S : Sg} {W W' : Wd} {H H' : Hp}

theorem FzL.length : ∀ {ds : List D} {vs : List V}, FzL S W H ds vs → ds.length = vs.length
  | [], _, h => by simp only [FzL] at h; subst h; rfl
  | d :: ds, vs, h => by
    simp only [FzL] at h
    obtain ⟨v, r, rfl, _, h⟩ := h
    simp [FzL.length h]
theorem FzL.nil : FzL S W H [] [] := by simp only [FzL]
theorem FzL.cons {d : D} {ds : List D} {v : V} {vs : List V} (h : Fz S W H d v) (t : FzL S W H ds vs) : FzL S W H (d :: ds) (v :: vs) := by
  simp only [FzL]; exact ⟨v, vs, rfl, h, t⟩
theorem FzL.append : ∀ {ds es : List D} {vs us : List V}, FzL S W H ds vs → FzL S W H es us → FzL S W H (ds ++ es) (vs ++ us)
  | [], _, _, _, h, t => by simp only [FzL] at h; subst h; exact t
  | d :: ds, es, vs, us, h, t => by
    simp only [FzL] at h
    obtain ⟨v, r, rfl, h1, h2⟩ := h
    exact FzL.cons h1 (FzL.append h2 t)
theorem FzL.get : ∀ {ds : List D} {vs : List V} {i : Nat} {d : D}, FzL S W H ds vs → ds[i]? = some d → ∃ v, vs[i]? = some v ∧ Fz S W H d v
  | [], _, _, _, _, e => by simp at e
  | d :: ds, vs, 0, _, h, e => by
    simp only [FzL] at h
    obtain ⟨v, r, rfl, h1, h2⟩ := h
    simp at e; subst e
    exact ⟨v, rfl, h1⟩
  | d :: ds, vs, i + 1, x, h, e => by
    simp only [FzL] at h
    obtain ⟨v, r, rfl, h1, h2⟩ := h
    obtain ⟨u, e1, e2⟩ := FzL.get (i := i) (d := x) h2 (by simpa using e)
    exact ⟨u, by simpa using e1, e2⟩
theorem FzL.take : ∀ {ds : List D} {vs : List V} (n : Nat), FzL S W H ds vs → FzL S W H (ds.take n) (vs.take n)
  | _, _, 0, _ => by simp only [List.take_zero]; exact FzL.nil
  | [], _, n + 1, h => by simp only [FzL] at h; subst h; exact FzL.nil
  | d :: ds, vs, n + 1, h => by
    simp only [FzL] at h
    obtain ⟨v, r, rfl, h1, h2⟩ := h
    exact FzL.cons h1 (FzL.take n h2)
theorem FzL.drop : ∀ {ds : List D} {vs : List V} (n : Nat), FzL S W H ds vs → FzL S W H (ds.drop n) (vs.drop n)
  | _, _, 0, h => h
  | [], _, n + 1, h => by simp only [FzL] at h; subst h; exact FzL.nil
  | d :: ds, vs, n + 1, h => by
    simp only [FzL] at h
    obtain ⟨v, r, rfl, h1, h2⟩ := h
    exact FzL.drop n h2
theorem FzL.reverse : ∀ {ds : List D} {vs : List V}, FzL S W H ds vs → FzL S W H ds.reverse vs.reverse
  | [], _, h => by simp only [FzL] at h; subst h; exact FzL.nil
  | d :: ds, vs, h => by
    simp only [FzL] at h
    obtain ⟨v, r, rfl, h1, h2⟩ := h
    simp only [List.reverse_cons]
    exact FzL.append (FzL.reverse h2) (FzL.cons h1 FzL.nil)

/-- what is frozen stays -/
structure Stays (W : Wd) (H : Hp) (W' : Wd) (H' : Hp) : Prop where
  f : ∀ a, W.F a → W'.F a ∧ (∀ o, H a = some o → (∀ ps, o ≠ .tbl ps) → H' a = some o)
  r : ∀ (n : Nat) (a : Addr), W.ρ[n]? = some a → W'.ρ[n]? = some a

theorem Rd.stays {a : Addr} {u : HO} (st : Stays W H W' H') (f : W.F a) (h : Rd H a u) (hu : ∀ ps, u ≠ .tbl ps) : Rd H' a u := by
  rcases h with h | ⟨o, h⟩
  · exact .inl ((st.f a f).2 _ h hu)
  · exact .inr ⟨o, (st.f a f).2 _ h (fun ps e => by cases e)⟩

mutual
theorem Fz.stays (st : Stays W H W' H') : ∀ {d : D} {v : V}, Fz S W H d v → Fz S W' H' d v
  | .non, v, h => by simp only [Fz] at h ⊢; exact h
  | .bl b, v, h => by simp only [Fz] at h ⊢; exact h
  | .int i, v, h => by simp only [Fz] at h ⊢; exact h
  | .str x, v, h => by simp only [Fz] at h ⊢; exact h
  | .tup xs, v, h => by
    simp only [Fz] at h ⊢
    obtain ⟨a, vs, rfl, t, l⟩ := h
    refine ⟨a, vs, rfl, ?_, FzL.stays st l⟩
    rcases t with ⟨f, r⟩ | t
    · exact .inl ⟨(st.f a f).1, Rd.stays st f r (fun ps e => by cases e)⟩
    · exact .inr t
  | .lst xs, v, h => by
    simp only [Fz] at h ⊢
    obtain ⟨a, vs, rfl, t, l⟩ := h
    exact ⟨a, vs, rfl, ⟨(st.f a t.1).1, (st.f a t.1).2 _ t.2 (fun ps e => by cases e)⟩, FzL.stays st l⟩
  | .dct ks xs, v, h => by
    simp only [Fz] at h ⊢
    obtain ⟨a, es, rfl, ⟨f, t⟩, l1, l2⟩ := h
    exact ⟨a, es, rfl, ⟨(st.f a f).1, (st.f a f).2 _ t (fun ps e => by cases e)⟩, FzL.stays st l1, FzL.stays st l2⟩
  | .fn n, v, h => by simp only [Fz] at h ⊢; exact h
  | .rf n, v, h => by
    simp only [Fz] at h ⊢
    obtain ⟨a, e, rfl⟩ := h
    exact ⟨a, st.r n a e, rfl⟩
  | .scr, v, h => by
    simp only [Fz] at h ⊢
    refine ⟨h.1, ?_⟩
    rcases h.2 with ⟨f, r⟩ | t
    · exact .inl ⟨(st.f _ f).1, Rd.stays st f r (fun ps e => by cases e)⟩
    · exact .inr t
  | .exn, v, h => by
    simp only [Fz] at h ⊢
    obtain ⟨p, h1, h2, h3⟩ := h
    refine ⟨p, h1, h2, h3.imp id fun ⟨dd, h4, h5, h6⟩ => ⟨dd, h4, (st.f dd h5).1, (st.f dd h5).2 _ h6 (fun ps e => by cases e)⟩⟩
theorem FzL.stays (st : Stays W H W' H') : ∀ {ds : List D} {vs : List V}, FzL S W H ds vs → FzL S W' H' ds vs
  | [], vs, h => by simp only [FzL] at h ⊢; exact h
  | d :: ds, vs, h => by
    simp only [FzL] at h ⊢
    obtain ⟨v, r, rfl, h1, h2⟩ := h
    exact ⟨v, r, rfl, Fz.stays st h1, FzL.stays st h2⟩
end

/-- the content of an object of one's own at a -/
def Ob (S : Sg) (W : Wd) (H : Hp) (d : D) (a : Addr) : Prop :=
  match d with
  | .lst ds => ∃ vs, H a = some (.lst vs) ∧ FzL S W H ds vs
  | .dct ks vs => ∃ es, H a = some (DicO a es) ∧ FzL S W H ks (es.map (·.2.1)) ∧ FzL S W H vs (es.map (·.2.2))
  | _ => False
theorem Ob.stays {a : Addr} (st : Stays W H W' H') (k : ∀ o, H a = some o → (∀ ps, o ≠ .tbl ps) → H' a = some o) {d : D} (h : Ob S W H d a) : Ob S W' H' d a := by
  cases d with
  | lst ds =>
    obtain ⟨vs, e, l⟩ := h
    exact ⟨vs, k _ e (fun ps e => by cases e), l.stays st⟩
  | dct ks vs =>
    obtain ⟨es, e, l1, l2⟩ := h
    exact ⟨es, k _ e (fun ps e => by cases e), l1.stays st, l2.stays st⟩
  | _ => exact h.elim
theorem Ob.at {a : Addr} {d : D} (h : Ob S W H d a) : ∃ o, H a = some o ∧ ∀ ps, o ≠ .tbl ps := by
  cases d with
  | lst ds =>
    obtain ⟨vs, e, l⟩ := h
    exact ⟨_, e, fun ps e => by cases e⟩
  | dct ks vs =>
    obtain ⟨es, e, _⟩ := h
    exact ⟨_, e, fun ps e => by cases e⟩
  | _ => exact h.elim
/-- it is frozen -/
theorem Ob.fz {a : Addr} {d : D} (h : Ob S W H d a) (f : W.F a) : Fz S W H d (.ref a) := by
  cases d with
  | lst ds =>
    obtain ⟨vs, e, l⟩ := h
    simp only [Fz]
    exact ⟨a, vs, rfl, ⟨f, e⟩, l⟩
  | dct ks vs =>
    obtain ⟨es, e, l1, l2⟩ := h
    simp only [Fz]
    exact ⟨a, es, rfl, ⟨f, e⟩, l1, l2⟩
  | _ => exact h.elim
end

/-! ### objects of the store, states -/
inductive SO where
  | lst (xs : List D)
  | ins (c : Nat) (fs : List (Str × D))

abbrev Sl : Type := Option (Bool × D)
abbrev Env' : Type := List Sl
abbrev Sto : Type := List SO

def FsRel (S : Sg) (W : Wd) (H : Hp) : List (Str × D) → List (Str × V) → Prop
  | [], vs => vs = []
  | (x, d) :: r, vs => ∃ v t, vs = (x, v) :: t ∧ Fz S W H d v ∧ FsRel S W H r t
theorem FsRel.stays {S : Sg} {W W' : Wd} {H H' : Hp} (st : Stays W H W' H') : ∀ {fs : List (Str × D)} {vs : List (Str × V)}, FsRel S W H fs vs → FsRel S W' H' fs vs
  | [], _, h => h
  | (x, d) :: r, vs, h => by
    obtain ⟨v, t, e, h1, h2⟩ := h
    exact ⟨v, t, e, h1.stays st, FsRel.stays st h2⟩
/-- where the classes stand -/
def ObS (S : Sg) (W : Wd) (H : Hp) (o : SO) (a : Addr) : Prop :=
  match o with
  | .lst ds => ∃ vs, H a = some (.lst vs) ∧ FzL S W H ds vs
  | .ins c fs => ∃ C dx vs, S.fa c = some C ∧ H a = some (.ins C dx vs) ∧ FsRel S W H fs vs
theorem ObS.stays {S : Sg} {W W' : Wd} {H H' : Hp} {a : Addr} (st : Stays W H W' H') (k : ∀ o, H a = some o → (∀ ps, o ≠ .tbl ps) → H' a = some o) {o : SO} (h : ObS S W H o a) : ObS S W' H' o a := by
  cases o with
  | lst ds =>
    obtain ⟨vs, e, l⟩ := h
    exact ⟨vs, k _ e (fun ps e => by cases e), l.stays st⟩
  | ins c fs =>
    obtain ⟨C, dx, vs, e1, e2, l⟩ := h
    exact ⟨C, dx, vs, e1, k _ e2 (fun ps e => by cases e), l.stays st⟩
theorem ObS.at {S : Sg} {W : Wd} {H : Hp} {a : Addr} {o : SO} (h : ObS S W H o a) : ∃ u, H a = some u ∧ ∀ ps, u ≠ .tbl ps := by
  cases o with
  | lst ds =>
    obtain ⟨vs, e, l⟩ := h
    exact ⟨_, e, fun ps e => by cases e⟩
  | ins c fs =>
    obtain ⟨C, dx, vs, e1, e2, l⟩ := h
    exact ⟨_, e2, fun ps e => by cases e⟩

def Own (e : Env') (σ : L2.St) (a : Addr) : Prop := ∃ (i : Nat) (d : D), e[i]? = some (some (true, d)) ∧ σ[i]? = some (some (.ref a))

/-! ### tables of code objects beside what is written -/
theorem heap_of (a : Addr) (o : Obj) (h : o.isFreed = false) : ∃ g : Heap, g.get? a = some o := by
  refine ⟨{ objs := (Array.replicate a default).push o }, ?_⟩
  unfold Heap.get?
  have e : ((Array.replicate a (default : Obj)).push o)[a]? = some o := by rw [Array.getElem?_push]; simp
  simp only [e]
  obtain ⟨c, d, dt, sl⟩ := o
  cases dt <;> first | rfl | (exact absurd h (by simp [Obj.isFreed]))
theorem dic_ne {a : Addr} {es : List Ent} {q : Str} : DicO a es ≠ LamX.CodeO a q := by
  intro z
  unfold DicO LamX.CodeO at z
  have z := HO.ext.inj z
  obtain ⟨g, hg⟩ := heap_of a { cls := .none, data := .fields #[.none, .str q 0] } rfl
  have h2 : ∃ (oc : Obj) (vs : Array Value) (t : Tok), g.get? a = some oc ∧ oc.data = .fields vs ∧ vs[1]? = some (.str q t) := ⟨_, _, 0, hg, rfl, rfl⟩
  rw [← congrFun z g] at h2
  obtain ⟨xs, n, h3, _⟩ := h2
  rw [hg] at h3
  cases h3
/-- it is no code object, no table -/
def Unc (a : Addr) (o : HO) : Prop := (∀ ps, o ≠ .tbl ps) ∧ ∀ q, o ≠ LamX.CodeO a q
theorem Unc.lst {a : Addr} {xs : List V} : Unc a (.lst xs) := ⟨fun _ z => (by cases z), fun _ z => (by unfold LamX.CodeO at z; cases z)⟩
theorem Unc.ins {a : Addr} {C dx : Addr} {fs : List (Str × V)} : Unc a (.ins C dx fs) := ⟨fun _ z => (by cases z), fun _ z => (by unfold LamX.CodeO at z; cases z)⟩
theorem Unc.dic {a : Addr} {es : List Ent} : Unc a (DicO a es) := ⟨fun _ z => (by unfold DicO at z; cases z), fun _ => dic_ne⟩
theorem tabs_upd {T : List (Addr × Str)} {H : Hp} {a : Addr} {o u : HO} (t : LamX.Tabs T H) (h : H a = some o) (p : Unc a o) : LamX.Tabs T (upd H a u) := fun x hx => by
  obtain ⟨ps, h1, h2, h3⟩ := t x hx
  have ne : x.1 ≠ a := fun z => by rw [z, h] at h1; cases h1; exact p.1 _ rfl
  refine ⟨ps, by rw [upd_ne ne]; exact h1, h2, fun pos cv hc => ?_⟩
  obtain ⟨c, e1, e2⟩ := h3 pos cv hc
  have nc : c ≠ a := fun z => by subst z; rw [h] at e2; cases e2; exact p.2 _ rfl
  exact ⟨c, e1, by rw [upd_ne nc]; exact e2⟩
theorem Ob.plain {S : Sg} {W : Wd} {H : Hp} {a : Addr} {d : D} (h : Ob S W H d a) : ∃ o, H a = some o ∧ Unc a o := by
  cases d with
  | lst ds =>
    obtain ⟨vs, e, _⟩ := h
    exact ⟨_, e, Unc.lst⟩
  | dct ks vs =>
    obtain ⟨es, e, _⟩ := h
    exact ⟨_, e, Unc.dic⟩
  | _ => exact h.elim
theorem ObS.plain {S : Sg} {W : Wd} {H : Hp} {a : Addr} {o : SO} (h : ObS S W H o a) : ∃ u, H a = some u ∧ Unc a u := by
  cases o with
  | lst ds =>
    obtain ⟨vs, e, _⟩ := h
    exact ⟨_, e, Unc.lst⟩
  | ins c fs =>
    obtain ⟨C, dx, vs, _, e, _⟩ := h
    exact ⟨_, e, Unc.ins⟩

structure Rel (S : Sg) (W : Wd) (σ : L2.St) (H : Hp) (e : Env') (M : Sto) : Prop where
  len : e.length = σ.length
  sh : ∀ (i : Nat) (d : D), e[i]? = some (some (false, d)) → ∃ v, σ[i]? = some (some v) ∧ Fz S W H d v
  ow : ∀ (i : Nat) (d : D), e[i]? = some (some (true, d)) → ∃ a, σ[i]? = some (some (.ref a)) ∧ Ob S W H d a
  inj : ∀ (i j : Nat) (d d' : D) (a : Addr), e[i]? = some (some (true, d)) → e[j]? = some (some (true, d')) → σ[i]? = some (some (.ref a)) → σ[j]? = some (some (.ref a)) → i = j
  sl : M.length = W.ρ.length
  st : ∀ (n : Nat) (o : SO), M[n]? = some o → ∃ a, W.ρ[n]? = some a ∧ ObS S W H o a
  nd : W.ρ.Nodup ∧ LamX.Tabs S.T H
  fr : ∀ a, W.F a → (∃ o, H a = some o ∧ ∀ ps, o ≠ .tbl ps) ∧ a ∉ W.ρ ∧ ¬ Own e σ a
  or_ : ∀ a, Own e σ a → a ∉ W.ρ

/-- nothing stands there, or a table -/
def Nw (H : Hp) (a : Addr) : Prop := H a = none ∨ ∃ ps, H a = some (.tbl ps)
theorem nw_no {H : Hp} {a : Addr} {o : HO} (h : H a = some o) (ht : ∀ ps, o ≠ .tbl ps) : ¬ Nw H a := fun z => by
  rcases z with z | ⟨ps, z⟩
  · rw [h] at z; cases z
  · rw [h] at z; cases z; exact ht ps rfl
theorem nw_grow {H H' : Hp} {a : Addr} (k : ∀ o, H a = some o → (∀ ps, o ≠ .tbl ps) → H' a = some o) (h : ¬ Nw H a) : ¬ Nw H' a := by
  cases z : H a with
  | none => exact absurd (.inl z) h
  | some o =>
    have ht : ∀ ps, o ≠ .tbl ps := fun ps e => h (.inr ⟨ps, by rw [z, e]⟩)
    exact nw_no (k o z ht) ht
/-- what a run from one state to another may change -/
structure Post (W : Wd) (e : Env') (σ : L2.St) (H : Hp) (W' : Wd) (e' : Env') (σ' : L2.St) (H' : Hp) : Prop where
  keep : ∀ a o, H a = some o → (∀ ps, o ≠ .tbl ps) → ¬ Own e σ a → a ∉ W.ρ → H' a = some o
  trk : ∀ a, ¬ Nw H a → ¬ Nw H' a
  grow : ∀ a, W.F a → W'.F a
  new : ∀ a, W'.F a → W.F a ∨ Nw H a ∨ Own e σ a ∨ a ∈ W.ρ
  pre : ∀ (n : Nat) (a : Addr), W.ρ[n]? = some a → W'.ρ[n]? = some a
  ron : ∀ a, a ∈ W'.ρ → a ∈ W.ρ ∨ Nw H a
  own : ∀ a, Own e' σ' a → Own e σ a ∨ Nw H a

section
variable {S : Sg} {W W1 W2 W' : Wd} {H H1 H2 H' : Hp} {e e1 e2 e' : Env'} {σ σ1 σ2 σ' : L2.St} {M M1 M' : Sto}
theorem Post.refl : Post W e σ H W e σ H := ⟨fun _ _ h _ _ _ => h, fun _ h => h, fun _ h => h, fun _ h => .inl h, fun _ _ h => h, fun _ h => .inl h, fun _ h => .inl h⟩
theorem Post.trans (p : Post W e σ H W1 e1 σ1 H1) (q : Post W1 e1 σ1 H1 W2 e2 σ2 H2) : Post W e σ H W2 e2 σ2 H2 where
  keep := fun a o h ht no nr => q.keep a o (p.keep a o h ht no nr) ht (fun z => (p.own a z).elim no (nw_no h ht)) (fun z => (p.ron a z).elim nr (nw_no h ht))
  trk := fun a h => q.trk a (p.trk a h)
  grow := fun a h => q.grow a (p.grow a h)
  new := fun a h => by
    rcases q.new a h with h | h | h | h
    · exact p.new a h
    · by_cases z : Nw H a
      · exact .inr (.inl z)
      · exact absurd h (p.trk a z)
    · rcases p.own a h with h | h
      · exact .inr (.inr (.inl h))
      · exact .inr (.inl h)
    · rcases p.ron a h with h | h
      · exact .inr (.inr (.inr h))
      · exact .inr (.inl h)
  pre := fun n a h => q.pre n a (p.pre n a h)
  ron := fun a h => by
    rcases q.ron a h with h | h
    · exact p.ron a h
    · by_cases z : Nw H a
      · exact .inr z
      · exact absurd h (p.trk a z)
  own := fun a h => by
    rcases q.own a h with h | h
    · exact p.own a h
    · by_cases z : Nw H a
      · exact .inr z
      · exact absurd h (p.trk a z)
/-- the frozen stays through it -/
theorem Post.stays (p : Post W e σ H W' e' σ' H') (r : Rel S W σ H e M) : Stays W H W' H' where
  f := fun a f => ⟨p.grow a f, fun o h ht => p.keep a o h ht (r.fr a f).2.2 (r.fr a f).2.1⟩
  r := p.pre
theorem Rel.nw_own (r : Rel S W σ H e M) {a : Addr} (h : Nw H a) : ¬ Own e σ a := fun ⟨i, d, e1, e2⟩ => by
  obtain ⟨b, h1, h2⟩ := r.ow i d e1
  rw [e2] at h1
  cases h1
  obtain ⟨o, ho, ht⟩ := h2.at
  exact nw_no ho ht h
theorem Rel.nw_sto (r : Rel S W σ H e M) {a : Addr} (h : Nw H a) : a ∉ W.ρ := fun hm => by
  obtain ⟨n, hn, e⟩ := List.mem_iff_getElem.mp hm
  have hM : n < M.length := by rw [r.sl]; exact hn
  obtain ⟨b, h1, h2⟩ := r.st n M[n] (List.getElem?_eq_getElem hM)
  rw [List.getElem?_eq_getElem hn] at h1
  cases h1
  obtain ⟨o, ho, ht⟩ := h2.at
  rw [e] at ho
  exact nw_no ho ht h
theorem Rel.nw_F (r : Rel S W σ H e M) {a : Addr} (h : Nw H a) : ¬ W.F a := fun f => by
  obtain ⟨⟨o, ho, ht⟩, _⟩ := r.fr a f
  exact nw_no ho ht h
theorem Rel.none_own (r : Rel S W σ H e M) {a : Addr} (h : H a = none) : ¬ Own e σ a := r.nw_own (.inl h)
theorem Rel.none_sto (r : Rel S W σ H e M) {a : Addr} (h : H a = none) : a ∉ W.ρ := r.nw_sto (.inl h)
theorem Rel.none_F (r : Rel S W σ H e M) {a : Addr} (h : H a = none) : ¬ W.F a := r.nw_F (.inl h)
/-- only new objects: the state stays as it was -/
theorem Rel.grown (r : Rel S W σ H e M) (k : ∀ a o, H a = some o → H' a = some o) : Rel S W σ H' e M := by
  have st : Stays W H W H' := ⟨fun a f => ⟨f, fun o h _ => k a o h⟩, fun _ _ h => h⟩
  refine ⟨r.len, fun i d h => ?_, fun i d h => ?_, r.inj, r.sl, fun n o h => ?_, ⟨r.nd.1, r.nd.2.ext k⟩, fun a f => ?_, r.or_⟩
  · obtain ⟨v, h1, h2⟩ := r.sh i d h
    exact ⟨v, h1, h2.stays st⟩
  · obtain ⟨a, h1, h2⟩ := r.ow i d h
    exact ⟨a, h1, h2.stays st fun o h _ => k a o h⟩
  · obtain ⟨a, h1, h2⟩ := r.st n o h
    exact ⟨a, h1, h2.stays st fun o h _ => k a o h⟩
  · obtain ⟨⟨o, ho, ht⟩, h2⟩ := r.fr a f
    exact ⟨⟨o, k a o ho, ht⟩, h2⟩
theorem Post.grown (k : ∀ a o, H a = some o → H' a = some o) : Post W e σ H W e σ H' :=
  ⟨fun a o h _ _ _ => k a o h, fun a h => nw_grow (fun o z _ => k a o z) h, fun _ h => h, fun _ h => .inl h, fun _ _ h => h, fun _ h => .inl h, fun _ h => .inl h⟩
/-- an address is frozen that is tracked, not the store's, not owned -/
def Wd.add (W : Wd) (a : Addr) : Wd := ⟨fun b => W.F b ∨ b = a, W.ρ⟩
theorem Stays.add {a : Addr} : Stays W H (W.add a) H := ⟨fun b f => ⟨.inl f, fun o h _ => h⟩, fun _ _ h => h⟩
theorem Rel.add (r : Rel S W σ H e M) {a : Addr} (h : ∃ o, H a = some o ∧ ∀ ps, o ≠ .tbl ps) (nr : a ∉ W.ρ) (no : ¬ Own e σ a) : Rel S (W.add a) σ H e M := by
  refine ⟨r.len, fun i d h => ?_, fun i d h => ?_, r.inj, r.sl, fun n o h => ?_, r.nd, fun b f => ?_, r.or_⟩
  · obtain ⟨v, h1, h2⟩ := r.sh i d h
    exact ⟨v, h1, h2.stays Stays.add⟩
  · obtain ⟨a, h1, h2⟩ := r.ow i d h
    exact ⟨a, h1, h2.stays Stays.add fun o h _ => h⟩
  · obtain ⟨a, h1, h2⟩ := r.st n o h
    exact ⟨a, h1, h2.stays Stays.add fun o h _ => h⟩
  · rcases f with f | rfl
    · exact r.fr b f
    · exact ⟨h, nr, no⟩
/-- .. and an own slot that is frozen -/
theorem own_set {i : Nat} {d : D} {a : Addr} (h : Own (e.set i (some (false, d))) σ a) : Own e σ a ∧ ∀ j d', e[j]? = some (some (true, d')) → σ[j]? = some (some (.ref a)) → (∀ k d'', e[k]? = some (some (true, d'')) → σ[k]? = some (some (.ref a)) → k = j) → j ≠ i := by
  obtain ⟨j, d', h1, h2⟩ := h
  by_cases hj : j = i
  · subst hj
    by_cases hl : j < e.length
    · rw [List.getElem?_set_self hl] at h1; cases h1
    · rw [List.getElem?_eq_none (by simpa using hl)] at h1; cases h1
  · rw [List.getElem?_set_ne (Ne.symm hj)] at h1
    refine ⟨⟨j, d', h1, h2⟩, fun k d'' e1 e2 u => ?_⟩
    have : j = k := u j d' h1 h2
    subst this
    exact hj
theorem Rel.freeze (r : Rel S W σ H e M) {i : Nat} {d : D} {a : Addr} (hi : e[i]? = some (some (true, d))) (ha : σ[i]? = some (some (.ref a))) : Rel S (W.add a) σ H (e.set i (some (false, d))) M := by
  have hl : i < e.length := (List.getElem?_eq_some_iff.mp hi).1
  obtain ⟨a', h1, ob⟩ := r.ow i d hi
  rw [ha] at h1; cases h1
  have oa : Own e σ a := ⟨i, d, hi, ha⟩
  have old : ∀ j (s : Sl), (e.set i (some (false, d)))[j]? = some s → j ≠ i → e[j]? = some s := fun j s h hj => by
    rwa [List.getElem?_set_ne (Ne.symm hj)] at h
  refine ⟨by simpa using r.len, fun j d' h => ?_, fun j d' h => ?_, fun j k d1 d2 b h1 h2 h3 h4 => ?_, r.sl, fun n o h => ?_, r.nd, fun b f => ?_, fun b h => r.or_ b (own_set h).1⟩
  · by_cases hj : j = i
    · subst hj
      rw [List.getElem?_set_self hl] at h; cases h
      exact ⟨.ref a, ha, (ob.stays Stays.add fun o h _ => h).fz (.inr rfl)⟩
    · obtain ⟨v, h1, h2⟩ := r.sh j d' (old j _ h hj)
      exact ⟨v, h1, h2.stays Stays.add⟩
  · by_cases hj : j = i
    · subst hj
      rw [List.getElem?_set_self hl] at h; cases h
    · obtain ⟨b, h1, h2⟩ := r.ow j d' (old j _ h hj)
      exact ⟨b, h1, h2.stays Stays.add fun o h _ => h⟩
  · by_cases hj : j = i
    · subst hj
      rw [List.getElem?_set_self hl] at h1; cases h1
    · by_cases hk : k = i
      · subst hk
        rw [List.getElem?_set_self hl] at h2; cases h2
      · exact r.inj j k d1 d2 b (old j _ h1 hj) (old k _ h2 hk) h3 h4
  · obtain ⟨a, h1, h2⟩ := r.st n o h
    exact ⟨a, h1, h2.stays Stays.add fun o h _ => h⟩
  · rcases f with f | rfl
    · obtain ⟨h1, h2, h3⟩ := r.fr b f
      exact ⟨h1, h2, fun z => h3 (own_set z).1⟩
    · refine ⟨ob.at, r.or_ b oa, fun ⟨j, d', z1, z2⟩ => ?_⟩
      by_cases hj : j = i
      · subst hj
        rw [List.getElem?_set_self hl] at z1; cases z1
      · exact hj (r.inj j i d' d b (old j _ z1 hj) hi z2 ha)
theorem Post.freeze (r : Rel S W σ H e M) {i : Nat} {d : D} {a : Addr} (hi : e[i]? = some (some (true, d))) (ha : σ[i]? = some (some (.ref a))) : Post W e σ H (W.add a) (e.set i (some (false, d))) σ H := by
  refine ⟨fun _ _ h _ _ _ => h, fun _ h => h, fun _ h => .inl h, fun b f => ?_, fun _ _ h => h, fun _ h => .inl h, fun b h => .inl (own_set h).1⟩
  rcases f with f | rfl
  · exact .inl f
  · exact .inr (.inr (.inl ⟨i, d, hi, ha⟩))
end
end EV

/-! EvB: what a run gives, readings by semantic functions, sequencing. -/
namespace EV
open PySem PySem.Spec PyProof.Rows L2

structure Exn where
  c : Nat
  fs : List (Str × D)
inductive Out where
  | ok (own : Bool) (d : D)
  | exc (x : Exn)
abbrev Ro : Type := Option (Out × Env' × Sto)
abbrev Sm : Type := Env' → Sto → Ro
/-- lists of frozen values -/
inductive OutA where
  | ok (ds : List D)
  | exc (x : Exn)
abbrev RoA : Type := Option (OutA × Env' × Sto)
abbrev SmA : Type := Env' → Sto → RoA

/-- a result: frozen, or an object of one's own (new, or taken out of a slot) -/
def Res (S : Sg) (W : Wd) (e : Env') (σ : L2.St) (e₀ : Env') (σ₀ : L2.St) (H₀ H : Hp) : Bool → D → V → Prop
  | false, d, v => Fz S W H d v
  | true, d, v => ∃ a, v = .ref a ∧ Ob S W H d a ∧ (Nw H₀ a ∨ Own e₀ σ₀ a) ∧ ¬ W.F a ∧ a ∉ W.ρ ∧ ¬ Own e σ a
/-- a field's value: a scalar -/
def scV : D → V
  | .bl b => .bl b
  | .int i => .int i
  | .str x => .str x
  | _ => .non
def fsV (fs : List (Str × D)) : List (Str × V) := fs.map fun p => (p.1, scV p.2)
def ExR (S : Sg) (W : Wd) (x : Exn) (cls : Value) (dx : Option Addr) (H : Hp) : Prop :=
  ∃ C, S.fa x.c = some C ∧ cls = .ref C ∧ ((x.fs = [] ∧ dx = none) ∨ ∃ a, dx = some a ∧ W.F a ∧ H a = some (.xd (fsV x.fs)) ∧ x.fs ≠ [])

/-- from a state, a run's answer does what is wanted -/
def KE (S : Sg) (w : XK) (W : Wd) (e : Env') (σ : L2.St) (H : Hp) (r : Ro) (Q : VK) : Prop :=
  match r with
  | none => False
  | some (.ok own d, e', M') => ∀ W' H' v, Rel S W' σ H' e' M' → Post W e σ H W' e' σ H' → Res S W' e' σ e σ H H' own d v → Q v H'
  | some (.exc x, e', M') => ∀ W' H' cls dx, Rel S W' σ H' e' M' → Post W e σ H W' e' σ H' → ExR S W' x cls dx H' → w cls dx H'
def KA (S : Sg) (w : XK) (W : Wd) (e : Env') (σ : L2.St) (H : Hp) (r : RoA) (Q : List V → Hp → Prop) : Prop :=
  match r with
  | none => False
  | some (.ok ds, e', M') => ∀ W' H' vs, Rel S W' σ H' e' M' → Post W e σ H W' e' σ H' → FzL S W' H' ds vs → Q vs H'
  | some (.exc x, e', M') => ∀ W' H' cls dx, Rel S W' σ H' e' M' → Post W e σ H W' e' σ H' → ExR S W' x cls dx H' → w cls dx H'
def KT (S : Sg) (w : XK) (W : Wd) (e : Env') (σ : L2.St) (H : Hp) (r : Ro) (Q : Bool → Hp → Prop) : Prop :=
  match r with
  | none => False
  | some (.ok _ (.bl b), e', M') => ∀ W' H', Rel S W' σ H' e' M' → Post W e σ H W' e' σ H' → Q b H'
  | some (.ok _ _, _, _) => False
  | some (.exc x, e', M') => ∀ W' H' cls dx, Rel S W' σ H' e' M' → Post W e σ H W' e' σ H' → ExR S W' x cls dx H' → w cls dx H'

def TEf (S : Sg) (w : XK) (f : Sm) : TE := fun σ H Q => ∃ W e M, Rel S W σ H e M ∧ KE S w W e σ H (f e M) Q
def TAf (S : Sg) (w : XK) (f : SmA) : TA := fun σ H Q => ∃ W e M, Rel S W σ H e M ∧ KA S w W e σ H (f e M) Q
def TTf (S : Sg) (w : XK) (f : Sm) : TT := fun σ H Q => ∃ W e M, Rel S W σ H e M ∧ KT S w W e σ H (f e M) Q

def bindS (r : Ro) (k : Bool → D → Env' → Sto → Ro) : Ro :=
  match r with
  | none => none
  | some (.exc x, e, M) => some (.exc x, e, M)
  | some (.ok own d, e, M) => k own d e M
def bindA (r : RoA) (k : List D → Env' → Sto → Ro) : Ro :=
  match r with
  | none => none
  | some (.exc x, e, M) => some (.exc x, e, M)
  | some (.ok ds, e, M) => k ds e M
def bindT (r : Ro) (k : Bool → Env' → Sto → Ro) : Ro :=
  match r with
  | some (.exc x, e, M) => some (.exc x, e, M)
  | some (.ok _ (.bl b), e, M) => k b e M
  | _ => none
def bindSA (r : Ro) (k : Bool → D → Env' → Sto → RoA) : RoA :=
  match r with
  | none => none
  | some (.exc x, e, M) => some (.exc x, e, M)
  | some (.ok own d, e, M) => k own d e M
def bindAA (r : RoA) (k : List D → Env' → Sto → RoA) : RoA :=
  match r with
  | none => none
  | some (.exc x, e, M) => some (.exc x, e, M)
  | some (.ok ds, e, M) => k ds e M
def fz (r : Ro) : Ro :=
  match r with
  | some (.ok _ d, e, M) => some (.ok false d, e, M)
  | x => x

section
variable {S : Sg} {w : XK} {W W1 : Wd} {e e1 : Env'} {σ σ1 : L2.St} {H H1 : Hp} {M M1 : Sto}

theorem Res.shift {own : Bool} {d : D} {v : V} {W' : Wd} {e' : Env'} {σ' : L2.St} {H' : Hp} (p : Post W e σ H W1 e1 σ1 H1) (h : Res S W' e' σ' e1 σ1 H1 H' own d v) : Res S W' e' σ' e σ H H' own d v := by
  cases own with
  | false => exact h
  | true =>
    obtain ⟨a, e1, e2, e3, e4⟩ := h
    refine ⟨a, e1, e2, ?_, e4⟩
    rcases e3 with e3 | e3
    · by_cases z : Nw H a
      · exact .inl z
      · exact absurd e3 (p.trk a z)
    · exact (p.own a e3).symm

theorem KE.shift {r : Ro} {Q : VK} (p : Post W e σ H W1 e1 σ H1) (h : KE S w W e σ H r Q) : KE S w W1 e1 σ H1 r Q := by
  match r, h with
  | none, h => exact h
  | some (.ok own d, e', M'), h => exact fun W' H' v r' p' q => h W' H' v r' (p.trans p') (q.shift p)
  | some (.exc x, e', M'), h => exact fun W' H' cls dx r' p' q => h W' H' cls dx r' (p.trans p') q
theorem KA.shift {r : RoA} {Q : List V → Hp → Prop} (p : Post W e σ H W1 e1 σ H1) (h : KA S w W e σ H r Q) : KA S w W1 e1 σ H1 r Q := by
  match r, h with
  | none, h => exact h
  | some (.ok ds, e', M'), h => exact fun W' H' v r' p' q => h W' H' v r' (p.trans p') q
  | some (.exc x, e', M'), h => exact fun W' H' cls dx r' p' q => h W' H' cls dx r' (p.trans p') q
theorem KT.shift {r : Ro} {Q : Bool → Hp → Prop} (p : Post W e σ H W1 e1 σ H1) (h : KT S w W e σ H r Q) : KT S w W1 e1 σ H1 r Q := by
  match r, h with
  | none, h => exact h
  | some (.ok own (.bl b), e', M'), h => exact fun W' H' r' p' => h W' H' r' (p.trans p')
  | some (.exc x, e', M'), h => exact fun W' H' cls dx r' p' q => h W' H' cls dx r' (p.trans p') q
theorem KE.mono {r : Ro} {Q Q' : VK} (h : KE S w W e σ H r Q) (q : ∀ v H', Q v H' → Q' v H') : KE S w W e σ H r Q' := by
  match r, h with
  | none, h => exact h
  | some (.ok own d, e', M'), h => exact fun W' H' v r' p' z => q _ _ (h W' H' v r' p' z)
  | some (.exc x, e', M'), h => exact h
theorem KT.mono {r : Ro} {Q Q' : Bool → Hp → Prop} (h : KT S w W e σ H r Q) (q : ∀ v H', Q v H' → Q' v H') : KT S w W e σ H r Q' := by
  match r, h with
  | none, h => exact h
  | some (.ok own (.bl b), e', M'), h => exact fun W' H' r' p' => q _ _ (h W' H' r' p')
  | some (.exc x, e', M'), h => exact h
/-- a fresh result of one's own, frozen -/
theorem Post.add {e' : Env'} {W' : Wd} {H' : Hp} {a : Addr} (p : Post W e σ H W' e' σ1 H') (h : Nw H a ∨ Own e σ a) : Post W e σ H (W'.add a) e' σ1 H' :=
  ⟨p.keep, p.trk, fun b f => .inl (p.grow b f), fun b f => by
    rcases f with f | rfl
    · exact p.new b f
    · rcases h with h | h
      · exact .inr (.inl h)
      · exact .inr (.inr (.inl h)), p.pre, p.ron, p.own⟩
theorem Rel.res_add {own : Bool} {d : D} {v : V} {W' : Wd} {e' : Env'} {H' : Hp} {M' : Sto} (r : Rel S W' σ H' e' M') (p : Post W e σ H W' e' σ H') (q : Res S W' e' σ e σ H H' own d v) :
    ∃ W'', Rel S W'' σ H' e' M' ∧ Post W e σ H W'' e' σ H' ∧ Fz S W'' H' d v := by
  cases own with
  | false => exact ⟨W', r, p, q⟩
  | true =>
    obtain ⟨a, rfl, ob, fr, nf, nr, no⟩ := q
    exact ⟨W'.add a, r.add ob.at nr no, p.add fr, (ob.stays Stays.add fun o h _ => h).fz (.inr rfl)⟩
theorem KE.fz {r : Ro} {Q : VK} (h : KE S w W e σ H (EV.fz r) Q) : KE S w W e σ H r Q := by
  match r, h with
  | none, h => exact h
  | some (.exc x, e', M'), h => exact h
  | some (.ok own d, e', M'), h =>
    intro W' H' v r p q
    obtain ⟨W'', r2, p2, f2⟩ := r.res_add p q
    exact h W'' H' v r2 p2 f2

/-! ### sequencing -/
theorem KE.bind {r : Ro} {k : Bool → D → Env' → Sto → Ro} {Q : VK} {Q' : VK} (h : KE S w W e σ H (bindS r k) Q)
    (c : ∀ own d e1 M1 W1 H1 v, Rel S W1 σ H1 e1 M1 → Post W e σ H W1 e1 σ H1 → Res S W1 e1 σ e σ H H1 own d v → KE S w W e σ H (k own d e1 M1) Q → Q' v H1) : KE S w W e σ H r Q' := by
  match r, h with
  | none, h => exact h
  | some (.exc x, e', M'), h => exact h
  | some (.ok own d, e', M'), h => exact fun W' H' v r p q => c own d e' M' W' H' v r p q h
/-- the result is frozen first; what follows starts behind it -/
theorem KE.bindF {r : Ro} {k : Bool → D → Env' → Sto → Ro} {Q Q' : VK} (h : KE S w W e σ H (bindS r k) Q)
    (c : ∀ own d e1 M1 W1 H1 v, Rel S W1 σ H1 e1 M1 → Fz S W1 H1 d v → KE S w W1 e1 σ H1 (k own d e1 M1) Q → Q' v H1) : KE S w W e σ H r Q' := by
  refine KE.bind h fun own d e1 M1 W1 H1 v r1 p q hk => ?_
  obtain ⟨W2, r2, p2, f2⟩ := r1.res_add p q
  exact c own d e1 M1 W2 H1 v r2 f2 (hk.shift p2)
theorem KE.bindA {r : RoA} {k : List D → Env' → Sto → Ro} {Q : VK} {Q' : List V → Hp → Prop} (h : KE S w W e σ H (bindA r k) Q)
    (c : ∀ ds e1 M1 W1 H1 vs, Rel S W1 σ H1 e1 M1 → FzL S W1 H1 ds vs → KE S w W1 e1 σ H1 (k ds e1 M1) Q → Q' vs H1) : KA S w W e σ H r Q' := by
  match r, h with
  | none, h => exact h
  | some (.exc x, e', M'), h => exact h
  | some (.ok ds, e', M'), h => exact fun W' H' v r p q => c ds e' M' W' H' v r q (h.shift p)
theorem KE.bindT {r : Ro} {k : Bool → Env' → Sto → Ro} {Q : VK} {Q' : Bool → Hp → Prop} (h : KE S w W e σ H (bindT r k) Q)
    (c : ∀ b e1 M1 W1 H1, Rel S W1 σ H1 e1 M1 → KE S w W1 e1 σ H1 (k b e1 M1) Q → Q' b H1) : KT S w W e σ H r Q' := by
  match r, h with
  | none, h => exact h
  | some (.exc x, e', M'), h => exact h
  | some (.ok own (.bl b), e', M'), h => exact fun W' H' r p => c b e' M' W' H' r (h.shift p)
theorem KT.bindT {r : Ro} {k : Bool → Env' → Sto → Ro} {Q : Bool → Hp → Prop} {Q' : Bool → Hp → Prop} (h : KT S w W e σ H (EV.bindT r k) Q)
    (c : ∀ b e1 M1 W1 H1, Rel S W1 σ H1 e1 M1 → KT S w W1 e1 σ H1 (k b e1 M1) Q → Q' b H1) : KT S w W e σ H r Q' := by
  match r, h with
  | none, h => exact h
  | some (.exc x, e', M'), h => exact h
  | some (.ok own (.bl b), e', M'), h => exact fun W' H' r p => c b e' M' W' H' r (h.shift p)
theorem KA.bindF {r : Ro} {k : Bool → D → Env' → Sto → RoA} {Q : List V → Hp → Prop} {Q' : VK} (h : KA S w W e σ H (bindSA r k) Q)
    (c : ∀ own d e1 M1 W1 H1 v, Rel S W1 σ H1 e1 M1 → Fz S W1 H1 d v → KA S w W1 e1 σ H1 (k own d e1 M1) Q → Q' v H1) : KE S w W e σ H r Q' := by
  match r, h with
  | none, h => exact h
  | some (.exc x, e', M'), h => exact h
  | some (.ok own d, e', M'), h =>
    intro W' H' v r1 p q
    obtain ⟨W2, r2, p2, f2⟩ := r1.res_add p q
    exact c own d e' M' W2 H' v r2 f2 (h.shift p2)
theorem KA.bindA {r : RoA} {k : List D → Env' → Sto → RoA} {Q Q' : List V → Hp → Prop} (h : KA S w W e σ H (bindAA r k) Q)
    (c : ∀ ds e1 M1 W1 H1 vs, Rel S W1 σ H1 e1 M1 → Post W e σ H W1 e1 σ H1 → FzL S W1 H1 ds vs → KA S w W1 e1 σ H1 (k ds e1 M1) Q → Q' vs H1) : KA S w W e σ H r Q' := by
  match r, h with
  | none, h => exact h
  | some (.exc x, e', M'), h => exact h
  | some (.ok ds, e', M'), h => exact fun W' H' v r p q => c ds e' M' W' H' v r p q (h.shift p)
/-- a value's run as a test's -/
theorem KT.ofE {r : Ro} {Q : Bool → Hp → Prop} (h : KT S w W e σ H r Q) : KE S w W e σ H r (fun x H1 => ∃ c, x = .bl c ∧ Q c H1) := by
  match r, h with
  | none, h => exact h
  | some (.exc x, e', M'), h => exact h
  | some (.ok own (.bl b), e', M'), h =>
    intro W' H' v r p q
    cases own with
    | false => simp only [Res, Fz] at q; exact ⟨b, q, h W' H' r p⟩
    | true => obtain ⟨a, _, ob, _⟩ := q; exact ob.elim
end
theorem peI {X : Cx} {e : Expr} {t t' : TE} (h : PE X e t) (i : ∀ σ H Q, t' σ H Q → t σ H Q) : PE X e t' := ⟨fun pins s σ H Q I q => h.run pins s σ H Q I (i _ _ _ q)⟩
theorem ptI {X : Cx} {e : Expr} {t t' : TT} (h : PT X e t) (i : ∀ σ H Q, t' σ H Q → t σ H Q) : PT X e t' := ⟨fun pins s σ H Q I q => h.run pins s σ H Q I (i _ _ _ q)⟩
theorem pwI {X : Cx} {e : Expr} {t t' : TT} (h : PW X e t) (i : ∀ σ H Q, t' σ H Q → t σ H Q) : PW X e t' := ⟨fun wh pins s σ H Q I q => h.run wh pins s σ H Q I (i _ _ _ q)⟩
theorem paI {X : Cx} {e : List Expr} {t t' : TA} (h : PA X e t) (i : ∀ σ H Q, t' σ H Q → t σ H Q) : PA X e t' := ⟨fun pos pins s σ H Q I q => h.run pos pins s σ H Q I (i _ _ _ q)⟩
theorem psI {X : Cx} {e : Stmt} {t t' : TS} (h : PS X e t) (i : ∀ D σ H, t' D σ H → t D σ H) : PS X e t' := ⟨fun pins s σ H D I q => h.run pins s σ H D I (i _ _ _ q)⟩
theorem pssI {X : Cx} {e : List Stmt} {t t' : TS} (h : PSs X e t) (i : ∀ D σ H, t' D σ H → t D σ H) : PSs X e t' := ⟨fun pins s σ H D I q => h.run pins s σ H D I (i _ _ _ q)⟩

/-! ### names, constants, operators -/
section
variable {S : Sg} {w : XK} {X : Cx} {pos : Pos} {a b : Expr} {f g : Sm}
def smC (d : D) : Sm := fun e M => some (.ok false d, e, M)
/-- a name's value, the slot frozen -/
def smV (i : Nat) : Sm := fun e M =>
  match e[i]? with
  | some (some (false, d)) => some (.ok false d, e, M)
  | some (some (true, d)) => some (.ok false d, e.set i (some (false, d)), M)
  | _ => none
theorem se_const {d : D} {v : V} {x : Expr} (h : PE X x (tC v)) (hv : ∀ W H, Fz S W H d v) : PE X x (TEf S w (smC d)) :=
  peI h fun σ H Q ⟨W, e, M, r, k⟩ => k W H v r Post.refl (hv W H)
theorem se_var {i : Nat} {x : Str} (hN : X.N[i]? = some x) (hv : Vis X.env.scope x) (hd : (x == ("__debug__" : Str)) = false) (hcd : (x == ("__classdict__" : Str)) = false) : PE X (.Name x pos) (TEf S w (smV i)) := by
  refine peI (pe_var hN hv hd hcd) fun σ H Q ⟨W, e, M, r, k⟩ => ?_
  unfold smV at k
  split at k
  · rename_i d h
    obtain ⟨v, h1, h2⟩ := r.sh i d h
    exact ⟨v, h1, k W H v r Post.refl h2⟩
  · rename_i d h
    obtain ⟨a, h1, h2⟩ := r.ow i d h
    exact ⟨.ref a, h1, k _ H _ (r.freeze h h1) (Post.freeze r h h1) ((h2.stays Stays.add fun o h _ => h).fz (.inr rfl))⟩
  · exact k.elim

/-- an operator's reading over readable operands; its result by a plain function -/
def Rb (S : Sg) (W : Wd) (H : Hp) (d : D) (v : V) : Prop := Fz S W H d v ∨ ∃ a, v = .ref a ∧ Ob S W H d a
def Gv (S : Sg) (W : Wd) (e : Env') (σ : L2.St) (H : Hp) (M : Sto) (own : Bool) (d : D) (Q : VK) : Prop :=
  ∀ W' H' v, Rel S W' σ H' e M → Post W e σ H W' e σ H' → Res S W' e σ e σ H H' own d v → Q v H'
def Pr2 (S : Sg) (r : R2) (p : D → D → Option (Bool × D)) : Prop := ∀ W σ H e M d1 d2 v1 v2 own d Q, Rel S W σ H e M → Rb S W H d1 v1 → Rb S W H d2 v2 → p d1 d2 = some (own, d) → Gv S W e σ H M own d Q → r v1 v2 H Q
def out1 (p : Option (Bool × D)) (e : Env') (M : Sto) : Ro := match p with
  | some (own, d) => some (.ok own d, e, M)
  | none => none
theorem KE.out1 {W : Wd} {e : Env'} {σ : L2.St} {H : Hp} {M : Sto} {p : Option (Bool × D)} {Q : VK} (k : KE S w W e σ H (out1 p e M) Q) : ∃ own d, p = some (own, d) ∧ Gv S W e σ H M own d Q := by
  match p, k with
  | some (own, d), k => exact ⟨own, d, rfl, k⟩
  | none, k => exact k.elim
def smOp2 (p : D → D → Option (Bool × D)) (f g : Sm) : Sm := fun e M => bindS (f e M) fun _ d1 e1 M1 => bindS (g e1 M1) fun _ d2 e2 M2 => out1 (p d1 d2) e2 M2
/-- two operands, evaluated and frozen -/
theorem op2_of {r : R2} {p : D → D → Option (Bool × D)} (hp : Pr2 S r p) {σ : L2.St} {H : Hp} {Q : VK} (h : TEf S w (smOp2 p f g) σ H Q) : tOp r (TEf S w f) (TEf S w g) σ H Q := by
  obtain ⟨W, e, M, r0, k⟩ := h
  refine ⟨W, e, M, r0, KE.bindF k fun own d1 e1 M1 W1 H1 v1 r1 f1 k1 => ⟨W1, e1, M1, r1, KE.bind k1 fun own2 d2 e2 M2 W2 H2 v2 r2 p2 q2 k2 => ?_⟩⟩
  obtain ⟨W3, r3, p3, f3⟩ := r2.res_add p2 q2
  obtain ⟨own3, d, e3, gv⟩ := KE.out1 (k2.shift p3)
  exact hp W3 σ H2 e2 M2 d1 d2 v1 v2 own3 d Q r3 (.inl (f1.stays (p3.stays r1))) (.inl f3) e3 gv
theorem se_bin {op : Operator} {r : R2} {p : D → D → Option (Bool × D)} (ho : OpR X (binaryOp op) r) (hp : Pr2 S r p) (ha : PE X a (TEf S w f)) (hb : PE X b (TEf S w g)) : PE X (.BinOp a op b pos) (TEf S w (smOp2 p f g)) :=
  peI (pe_op ho ha hb) fun _ _ _ h => op2_of hp h
theorem se_cmp {op : CmpOp} {r : R2} {p : D → D → Option (Bool × D)} (ho : OpR X (compareOp op) r) (hp : Pr2 S r p) (ha : PE X a (TEf S w f)) (hb : PE X b (TEf S w g)) (hm : behindInMarks op b = false) : PE X (.Compare a [op] [b] pos) (TEf S w (smOp2 p f g)) :=
  peI (pe_cmpR ho ha hb hm) fun _ _ _ h => op2_of hp h
end
end EV

/-! EvC: tests, and, or, not, chains, argument lists, displays, calls, statements. -/
namespace EV
open PySem PySem.Spec PyProof.Rows L2

section
variable {S : Sg} {w : XK} {X : Cx} {pos : Pos} {a b c : Expr} {f g h : Sm}

/-! ### tests -/
theorem st_val (he : PE X a (TEf S w f)) (hv : ∀ whole, isTrue a X.env whole = (do let v ← whole; standAt a.pos; holding [v] (truthy v))) : PT X a (TTf S w f) :=
  ptI (pt_val he hv) fun _ _ _ ⟨W, e, M, r, k⟩ => ⟨W, e, M, r, k.ofE⟩
theorem st_cmp {op : CmpOp} {r : R2} {p : D → D → Option (Bool × D)} (ho : OpR X (compareOp op) r) (hp : Pr2 S r p) (ha : PE X a (TEf S w f)) (hb : PE X b (TEf S w g)) (hm : behindInMarks op b = false) : PT X (.Compare a [op] [b] pos) (TTf S w (smOp2 p f g)) :=
  ptI (pt_cmpR ho ha hb hm) fun _ _ _ ⟨W, e, M, r, k⟩ => op2_of hp ⟨W, e, M, r, k.ofE⟩
def smAnd (f g : Sm) : Sm := fun e M => bindT (f e M) fun b e1 M1 => if b = true then g e1 M1 else some (.ok false (.bl false), e1, M1)
def smOr (f g : Sm) : Sm := fun e M => bindT (f e M) fun b e1 M1 => if b = true then some (.ok false (.bl true), e1, M1) else g e1 M1
def smNot (f : Sm) : Sm := fun e M => bindT (f e M) fun b e1 M1 => some (.ok false (.bl (!b)), e1, M1)
def smIf (c f g : Sm) : Sm := fun e M => bindT (c e M) fun b e1 M1 => if b = true then f e1 M1 else g e1 M1
theorem KT.bl {W : Wd} {e : Env'} {σ : L2.St} {H : Hp} {M : Sto} {b : Bool} {Q : Bool → Hp → Prop} (k : KT S w W e σ H (some (.ok false (.bl b), e, M)) Q) (r : Rel S W σ H e M) : Q b H := k W H r Post.refl
theorem KE.bl {W : Wd} {e : Env'} {σ : L2.St} {H : Hp} {M : Sto} {d : D} {v : V} {Q : VK} (k : KE S w W e σ H (some (.ok false d, e, M)) Q) (r : Rel S W σ H e M) (h : Fz S W H d v) : Q v H := k W H v r Post.refl h
theorem sw_and1 (ha : PT X a (TTf S w f)) : PW X (.BoolOp .And [a] pos) (TTf S w f) := pw_and1 ha
theorem sw_or1 (ha : PT X a (TTf S w f)) : PW X (.BoolOp .Or [a] pos) (TTf S w f) := pw_or1 ha
theorem sw_and {rest : List Expr} (ha : PT X a (TTf S w f)) (hb : PW X (.BoolOp .And (b :: rest) pos) (TTf S w g)) : PW X (.BoolOp .And (a :: b :: rest) pos) (TTf S w (smAnd f g)) :=
  pwI (pw_and ha hb) fun _ _ _ ⟨W, e, M, r, k⟩ => ⟨W, e, M, r, KT.bindT k fun c e1 M1 W1 H1 r1 k1 => by
    cases c with
    | true => exact ⟨W1, e1, M1, r1, k1⟩
    | false => exact KT.bl k1 r1⟩
theorem sw_or {rest : List Expr} (ha : PT X a (TTf S w f)) (hb : PW X (.BoolOp .Or (b :: rest) pos) (TTf S w g)) : PW X (.BoolOp .Or (a :: b :: rest) pos) (TTf S w (smOr f g)) :=
  pwI (pw_or ha hb) fun _ _ _ ⟨W, e, M, r, k⟩ => ⟨W, e, M, r, KT.bindT k fun c e1 M1 W1 H1 r1 k1 => by
    cases c with
    | true => exact KT.bl k1 r1
    | false => exact ⟨W1, e1, M1, r1, k1⟩⟩
theorem st_not (ha : PT X a (TTf S w f)) : PT X (.UnaryOp .Not a pos) (TTf S w (smNot f)) :=
  ptI (pt_not ha) fun _ _ _ ⟨W, e, M, r, k⟩ => ⟨W, e, M, r, KT.bindT k fun c e1 M1 W1 H1 r1 k1 => KT.bl k1 r1⟩
/-- .. as values -/
theorem KE.asT {W : Wd} {e : Env'} {σ : L2.St} {H : Hp} {r : Ro} {k : Bool → Env' → Sto → Ro} {Q : VK} {Q' : V → Hp → Prop} (h : KE S w W e σ H (EV.bindT r k) Q)
    (c : ∀ b e1 M1 W1 H1, Rel S W1 σ H1 e1 M1 → KE S w W1 e1 σ H1 (k b e1 M1) Q → Q' (.bl b) H1) : KE S w W e σ H r Q' := by
  have k1 : KT S w W e σ H r (fun b H1 => Q' (.bl b) H1) := KE.bindT h fun b e1 M1 W1 H1 r1 k1 => c b e1 M1 W1 H1 r1 k1
  exact k1.ofE.mono fun v H' ⟨b, e, q⟩ => by rw [e]; exact q
theorem se_one {op : BoolOp} (ha : PE X a (TEf S w f)) : PE X (.BoolOp op [a] pos) (TEf S w f) := pe_one ha
theorem se_and {rest : List Expr} (ha : PE X a (TEf S w f)) (hb : PE X (.BoolOp .And (b :: rest) pos) (TEf S w g)) : PE X (.BoolOp .And (a :: b :: rest) pos) (TEf S w (smAnd f g)) :=
  peI (pe_and ha hb) fun _ _ _ ⟨W, e, M, r, k⟩ => ⟨W, e, M, r, KE.asT k fun c e1 M1 W1 H1 r1 k1 => ⟨c, rfl, by
    cases c with
    | true => exact ⟨W1, e1, M1, r1, k1⟩
    | false => exact KE.bl k1 r1 (by simp only [Fz])⟩⟩
theorem se_or {rest : List Expr} (ha : PE X a (TEf S w f)) (hb : PE X (.BoolOp .Or (b :: rest) pos) (TEf S w g)) : PE X (.BoolOp .Or (a :: b :: rest) pos) (TEf S w (smOr f g)) :=
  peI (pe_or ha hb) fun _ _ _ ⟨W, e, M, r, k⟩ => ⟨W, e, M, r, KE.asT k fun c e1 M1 W1 H1 r1 k1 => ⟨c, rfl, by
    cases c with
    | true => exact KE.bl k1 r1 (by simp only [Fz])
    | false => exact ⟨W1, e1, M1, r1, k1⟩⟩⟩
theorem se_not (ha : PE X a (TEf S w f)) : PE X (.UnaryOp .Not a pos) (TEf S w (smNot f)) :=
  peI (pe_not ha) fun _ _ _ ⟨W, e, M, r, k⟩ => ⟨W, e, M, r, KE.asT k fun c e1 M1 W1 H1 r1 k1 => ⟨c, rfl, KE.bl k1 r1 (by simp only [Fz])⟩⟩
theorem se_if (hc : PT X c (TTf S w h)) (ha : PE X a (TEf S w f)) (hb : PE X b (TEf S w g)) : PE X (.IfExp c a b pos) (TEf S w (smIf h f g)) :=
  peI (pe_ifExp hc ha hb) fun _ _ _ ⟨W, e, M, r, k⟩ => ⟨W, e, M, r, KE.bindT k fun c e1 M1 W1 H1 r1 k1 => by
    cases c with
    | true => exact ⟨W1, e1, M1, r1, k1⟩
    | false => exact ⟨W1, e1, M1, r1, k1⟩⟩
/-- a op1 b op2 c, of comparisons that give bools -/
def smChain (p p' : D → D → Option (Bool × D)) (f g h : Sm) : Sm := fun e M => bindS (f e M) fun _ d1 e1 M1 => bindS (g e1 M1) fun _ d2 e2 M2 =>
  match p d1 d2 with
  | some (false, .bl true) => bindS (h e2 M2) fun _ d3 e3 M3 => out1 (p' d2 d3) e3 M3
  | some (false, .bl false) => some (.ok false (.bl false), e2, M2)
  | _ => none
theorem chain_of {r r' : R2} {p p' : D → D → Option (Bool × D)} (hp : Pr2 S r p) (hp' : Pr2 S r' p') {σ : L2.St} {H : Hp} {Q : VK} (h0 : TEf S w (smChain p p' f g h) σ H Q) :
    tChain r r' (TEf S w f) (TEf S w g) (TEf S w h) σ H Q := by
  obtain ⟨W, e, M, r0, k⟩ := h0
  refine ⟨W, e, M, r0, KE.bindF k fun own d1 e1 M1 W1 H1 v1 r1 f1 k1 => ⟨W1, e1, M1, r1, KE.bind k1 fun own2 d2 e2 M2 W2 H2 v2 r2 p2 q2 k2 => ?_⟩⟩
  obtain ⟨W3, r3, p3, f3⟩ := r2.res_add p2 q2
  have k3 := k2.shift p3
  split at k3
  · rename_i hpe
    refine hp W3 σ H2 e2 M2 d1 d2 v1 v2 false (.bl true) _ r3 (.inl (f1.stays (p3.stays r1))) (.inl f3) hpe fun W4 H4 v r4 p4 q4 => ?_
    simp only [Res, Fz] at q4
    refine ⟨true, q4, ?_⟩
    rw [if_pos rfl]
    refine ⟨W4, e2, M2, r4, KE.bind (k3.shift p4) fun own5 d5 e5 M5 W5 H5 v5 r5 p5 q5 k5 => ?_⟩
    obtain ⟨W6, r6, p6, f6⟩ := r5.res_add p5 q5
    obtain ⟨own7, d7, e7, gv⟩ := KE.out1 (k5.shift p6)
    exact hp' W6 σ H5 e5 M5 d2 d5 v2 v5 own7 d7 Q r6 (.inl ((f3.stays (p4.stays r3)).stays (p6.stays r4))) (.inl f6) e7 gv
  · rename_i hpe
    refine hp W3 σ H2 e2 M2 d1 d2 v1 v2 false (.bl false) _ r3 (.inl (f1.stays (p3.stays r1))) (.inl f3) hpe fun W4 H4 v r4 p4 q4 => ?_
    simp only [Res, Fz] at q4
    refine ⟨false, q4, ?_⟩
    rw [if_neg Bool.false_ne_true]
    exact (k3.shift p4) W4 H4 _ r4 Post.refl (by simp only [Res, Fz])
  · exact k3.elim
theorem se_chain {op op' : CmpOp} {r r' : R2} {p p' : D → D → Option (Bool × D)} (ho : OpR X (compareOp op) r) (ho' : OpR X (compareOp op') r') (hp : Pr2 S r p) (hp' : Pr2 S r' p') (ha : PE X a (TEf S w f)) (hb : PE X b (TEf S w g)) (hc : PE X c (TEf S w h))
    (hm : lastMarks [op, op'] [b, c] = false) : PE X (.Compare a [op, op'] [b, c] pos) (TEf S w (smChain p p' f g h)) :=
  peI (pe_chain ho ho' ha hb hc hm) fun _ _ _ z => chain_of hp hp' z
theorem st_chain {op op' : CmpOp} {r r' : R2} {p p' : D → D → Option (Bool × D)} (ho : OpR X (compareOp op) r) (ho' : OpR X (compareOp op') r') (hp : Pr2 S r p) (hp' : Pr2 S r' p') (ha : PE X a (TEf S w f)) (hb : PE X b (TEf S w g)) (hc : PE X c (TEf S w h))
    (hm : lastMarks [op, op'] [b, c] = false) : PT X (.Compare a [op, op'] [b, c] pos) (TTf S w (smChain p p' f g h)) :=
  ptI (pt_chain ho ho' ha hb hc hm) fun _ _ _ ⟨W, e, M, r, k⟩ => chain_of hp hp' ⟨W, e, M, r, k.ofE⟩

/-! ### argument lists -/
def saNil : SmA := fun e M => some (.ok [], e, M)
def saCons (f : Sm) (g : SmA) : SmA := fun e M => bindSA (f e M) fun _ d e1 M1 => bindAA (g e1 M1) fun ds e2 M2 => some (.ok (d :: ds), e2, M2)
/-- *x, x a tuple or a list -/
def items : D → Option (List D)
  | .tup xs => some xs
  | .lst xs => some xs
  | _ => none
def saStar (f : Sm) (g : SmA) : SmA := fun e M => bindSA (f e M) fun _ d e1 M1 => match items d with
  | some xs => bindAA (g e1 M1) fun ds e2 M2 => some (.ok (xs ++ ds), e2, M2)
  | none => none
variable {es : List Expr} {t : SmA}
theorem sa_nil : PA X [] (TAf S w saNil) := paI pa_nil fun _ H _ ⟨W, e, M, r, k⟩ => k W H [] r Post.refl FzL.nil
theorem sa_cons (ha : PE X a (TEf S w f)) (hr : PA X es (TAf S w t)) (hs : starEach (a :: es) X.env = (false, eval a X.env) :: starEach es X.env) : PA X (a :: es) (TAf S w (saCons f t)) :=
  paI (pa_cons ha hr hs) fun σ _ _ ⟨W, e, M, r, k⟩ => ⟨W, e, M, r, KA.bindF k fun own d e1 M1 W1 H1 v r1 f1 k1 => ⟨W1, e1, M1, r1, KA.bindA k1 fun ds e2 M2 W2 H2 vs r2 p2 f2 k2 =>
    k2 W2 H2 (v :: vs) r2 Post.refl (FzL.cons (f1.stays (p2.stays r1)) f2)⟩⟩
theorem items_of {W : Wd} {H : Hp} {d : D} {v : V} {xs : List D} (h : items d = some xs) (f : Fz S W H d v) : ∃ a vs, v = .ref a ∧ (SqT S.K H a vs ∨ SqL S.K H a vs) ∧ FzL S W H xs vs := by
  cases d with
  | tup ys =>
    cases h
    simp only [Fz] at f
    obtain ⟨a, vs, e, t, l⟩ := f
    exact ⟨a, vs, e, .inl t.sq, l⟩
  | lst ys =>
    cases h
    simp only [Fz] at f
    obtain ⟨a, vs, e, t, l⟩ := f
    exact ⟨a, vs, e, .inr t.sq, l⟩
  | _ => cases h
theorem sa_star {p : Pos} (hK : X.K = S.K) (ha : PE X a (TEf S w f)) (hr : PA X es (TAf S w t)) (hs : starEach (.Starred a p :: es) X.env = (true, eval a X.env) :: starEach es X.env) : PA X (.Starred a p :: es) (TAf S w (saStar f t)) := by
  refine paI (StX.pa_star ha hr hs) fun σ H Q ⟨W, e, M, r, k⟩ => ⟨W, e, M, r, KA.bindF k fun own d e1 M1 W1 H1 v r1 f1 k1 => ?_⟩
  split at k1
  · rename_i xs hx
    obtain ⟨b, vs, rfl, sq, l⟩ := items_of hx f1
    refine ⟨b, vs, rfl, by rw [hK]; exact sq, W1, e1, M1, r1, KA.bindA k1 fun ds e2 M2 W2 H2 us r2 p2 f2 k2 => k2 W2 H2 (vs ++ us) r2 Post.refl (FzL.append (l.stays (p2.stays r1)) f2)⟩
  · exact k1.elim

/-! ### displays -/
theorem upd_keep {H : Hp} {p : Addr} {o : HO} (h : H p = none) : ∀ a u, H a = some u → upd H p o a = some u := fun a u e => by
  rw [upd_ne (ne_of_none e h)]; exact e
theorem Rel.laid {W : Wd} {σ : L2.St} {H : Hp} {e : Env'} {M : Sto} {p : Addr} {o : HO} (r : Rel S W σ H e M) (h : H p = none) (ht : ∀ ps, o ≠ .tbl ps) : Rel S (W.add p) σ (upd H p o) e M :=
  (r.grown (upd_keep h)).add ⟨o, upd_same, ht⟩ (r.none_sto h) (r.none_own h)
theorem Post.laid {W : Wd} {σ : L2.St} {H : Hp} {e : Env'} {p : Addr} {o : HO} (h : H p = none) : Post W e σ H (W.add p) e σ (upd H p o) :=
  (Post.grown (upd_keep h)).add (.inl (.inl h))
theorem Stays.laid {W : Wd} {H : Hp} {p : Addr} {o : HO} (h : H p = none) : Stays W H (W.add p) (upd H p o) :=
  ⟨fun a f => ⟨.inl f, fun u e _ => upd_keep h a u e⟩, fun _ _ h => h⟩
theorem Stays.laid0 {W : Wd} {H : Hp} {p : Addr} {o : HO} (h : H p = none) : Stays W H W (upd H p o) :=
  ⟨fun a f => ⟨f, fun u e _ => upd_keep h a u e⟩, fun _ _ h => h⟩
/-- a new tuple -/
theorem new_tup {W : Wd} {σ : L2.St} {H : Hp} {e : Env'} {M : Sto} {ds : List D} {vs : List V} {Q : VK} (r : Rel S W σ H e M) (l : FzL S W H ds vs) (g : Gv S W e σ H M false (.tup ds) Q) {p : Addr} (h : H p = none) : Q (.ref p) (upd H p (.tup vs)) :=
  g (W.add p) _ _ (r.laid h (fun ps z => by cases z)) (Post.laid h) (by simp only [Res, Fz]; exact ⟨p, vs, rfl, .inl ⟨.inr rfl, .inl upd_same⟩, l.stays (Stays.laid h)⟩)
/-- a new list, one's own -/
theorem new_lst {W : Wd} {σ : L2.St} {H : Hp} {e : Env'} {M : Sto} {ds : List D} {vs : List V} {Q : VK} (r : Rel S W σ H e M) (l : FzL S W H ds vs) (g : Gv S W e σ H M true (.lst ds) Q) {p : Addr} (h : H p = none) : Q (.ref p) (upd H p (.lst vs)) :=
  g W _ _ (r.grown (upd_keep h)) (Post.grown (upd_keep h)) ⟨p, rfl, ⟨vs, upd_same, l.stays (Stays.laid0 h)⟩, .inl (.inl h), r.none_F h, r.none_sto h, r.none_own h⟩
def smTup (t : SmA) : Sm := fun e M => bindA (t e M) fun ds e1 M1 => if ds.length ≤ sizeLine then some (.ok false (.tup ds), e1, M1) else none
def smLst (t : SmA) : Sm := fun e M => bindA (t e M) fun ds e1 M1 => if ds.length ≤ sizeLine then some (.ok true (.lst ds), e1, M1) else none
theorem se_tup {x1 : Nat} (h : PA X es (TAf S w t)) : PE X (.Tuple es x1 pos) (TEf S w (smTup t)) := by
  refine peI (pe_tup h) fun σ H Q ⟨W, e, M, r, k⟩ => ⟨W, e, M, r, KE.bindA k fun ds e1 M1 W1 H1 vs r1 f1 k1 => ?_⟩
  split at k1
  · rename_i hl
    exact ⟨by rw [← f1.length]; exact hl, fun p hp => new_tup r1 f1 k1 hp⟩
  · exact k1.elim
theorem se_lst (h : PA X es (TAf S w t)) : PE X (.List es pos) (TEf S w (smLst t)) := by
  refine peI (pe_lst h) fun σ H Q ⟨W, e, M, r, k⟩ => ⟨W, e, M, r, KE.bindA k fun ds e1 M1 W1 H1 vs r1 f1 k1 => ?_⟩
  split at k1
  · rename_i hl
    exact ⟨by rw [← f1.length]; exact hl, fun p hp => new_lst r1 f1 k1 hp⟩
  · exact k1.elim

/-! ### what a def promises, calls -/
abbrev Fs : Type := List D → Sto → Option (Out × Sto)
def upE (r : Option (Out × Sto)) (e : Env') : Ro := r.map fun p => (p.1, e, p.2)
def spF (S : Sg) (n : Nat) (F : Fs) : Sp := fun vs H Q E => vs.length = n ∧ ∃ W ds M, Rel S W [] H [] M ∧ FzL S W H ds vs ∧ KE S E W [] [] H (upE (F ds M) []) Q
theorem own_nil {σ : L2.St} {a : Addr} : ¬ Own [] σ a := fun ⟨i, d, h, _⟩ => by simp at h
theorem Rel.leave {W : Wd} {σ : L2.St} {H : Hp} {e : Env'} {M : Sto} (r : Rel S W σ H e M) : Rel S W [] H [] M :=
  ⟨rfl, fun i d h => by simp at h, fun i d h => by simp at h, fun i j d d' a h => by simp at h, r.sl, r.st, r.nd, fun a f => ⟨(r.fr a f).1, (r.fr a f).2.1, own_nil⟩, fun a h => absurd h own_nil⟩
/-- back from a call -/
theorem Rel.back {W W' : Wd} {σ : L2.St} {H H' : Hp} {e : Env'} {M M' : Sto} (r : Rel S W σ H e M) (r' : Rel S W' [] H' [] M') (p : Post W [] [] H W' [] [] H') : Rel S W' σ H' e M' ∧ Post W e σ H W' e σ H' := by
  have st : Stays W H W' H' := p.stays r.leave
  have po : Post W e σ H W' e σ H' := ⟨fun a o h ht _ nr => p.keep a o h ht own_nil nr, p.trk, p.grow, fun a f => by
    rcases p.new a f with h | h | h | h
    · exact .inl h
    · exact .inr (.inl h)
    · exact absurd h own_nil
    · exact .inr (.inr (.inr h)), p.pre, p.ron, fun a h => .inl h⟩
  have ok : ∀ a, Own e σ a → a ∉ W'.ρ ∧ ¬ W'.F a := fun a h => by
    have tr : ¬ Nw H a := fun z => r.nw_own z h
    refine ⟨fun z => ?_, fun z => ?_⟩
    · rcases p.ron a z with z | z
      · exact r.or_ a h z
      · exact tr z
    · rcases p.new a z with z | z | z | z
      · exact (r.fr a z).2.2 h
      · exact tr z
      · exact own_nil z
      · exact r.or_ a h z
  refine ⟨⟨r.len, fun i d h => ?_, fun i d h => ?_, r.inj, r'.sl, r'.st, r'.nd, fun a f => ⟨(r'.fr a f).1, (r'.fr a f).2.1, fun z => (ok a z).2 f⟩, fun a h => (ok a h).1⟩, po⟩
  · obtain ⟨v, h1, h2⟩ := r.sh i d h
    exact ⟨v, h1, h2.stays st⟩
  · obtain ⟨a, h1, h2⟩ := r.ow i d h
    exact ⟨a, h1, h2.stays st fun o ho ht => p.keep a o ho ht own_nil (r.or_ a ⟨i, d, h, h1⟩)⟩
theorem Res.back {W W' : Wd} {σ : L2.St} {H H' : Hp} {e : Env'} {M : Sto} {own : Bool} {d : D} {v : V} (r : Rel S W σ H e M) (q : Res S W' [] [] [] [] H H' own d v) : Res S W' e σ e σ H H' own d v := by
  cases own with
  | false => exact q
  | true =>
    obtain ⟨a, e1, e2, e3, e4, e5, _⟩ := q
    rcases e3 with e3 | e3
    · exact ⟨a, e1, e2, .inl e3, e4, e5, r.nw_own e3⟩
    · exact absurd e3 own_nil
/-- a callee's answer, in the caller's state -/
theorem KE.call {W : Wd} {σ : L2.St} {H : Hp} {e : Env'} {M : Sto} {r : Option (Out × Sto)} {Q : VK} (h : KE S w W e σ H (upE r e) Q) (r0 : Rel S W σ H e M) : KE S w W [] [] H (upE r []) Q := by
  match r, h with
  | none, h => exact h
  | some (.ok own d, M'), h =>
    intro W' H' v r' p q
    obtain ⟨r2, p2⟩ := r0.back r' p
    exact h W' H' v r2 p2 (q.back r0)
  | some (.exc x, M'), h =>
    intro W' H' cls dx r' p q
    obtain ⟨r2, p2⟩ := r0.back r' p
    exact h W' H' cls dx r2 p2 q
def smCall (F : Fs) (t : SmA) : Sm := fun e M => bindA (t e M) fun ds e1 M1 => upE (F ds M1) e1
theorem tcall_of {n : Nat} {F : Fs} {σ : L2.St} {H : Hp} {Q : VK} (hn : ∀ ds M r, F ds M = some r → ds.length = n) (h : TEf S w (smCall F t) σ H Q) : tCall (spF S n F) [] w (TAf S w t) σ H Q := by
  obtain ⟨W, e, M, r, k⟩ := h
  refine ⟨W, e, M, r, KE.bindA k fun ds e1 M1 W1 H1 vs r1 f1 k1 => ?_⟩
  have hd : ds.length = n := by
    cases hF : F ds M1 with
    | none => rw [hF] at k1; exact k1.elim
    | some z => exact hn ds M1 z hF
  rw [List.append_nil]
  exact ⟨by rw [← f1.length]; exact hd, W1, ds, M1, r1.leave, f1, k1.call r1⟩
end
end EV

/-! EvD: statements, loops, defs. -/
namespace EV
open PySem PySem.Spec PyProof.Rows L2

inductive OutS where
  | nx
  | rt (own : Bool) (d : D)
  | exc (x : Exn)
abbrev RoS : Type := Option (OutS × Env' × Sto)
abbrev SmS : Type := Env' → Sto → RoS

def KS (S : Sg) (w : XK) (W : Wd) (e : Env') (σ : L2.St) (H : Hp) (r : RoS) (D : Ends) : Prop :=
  match r with
  | none => False
  | some (.nx, e', M') => ∀ W' H' σ', Rel S W' σ' H' e' M' → Post W e σ H W' e' σ' H' → D.nx σ' H'
  | some (.rt own d, e', M') => ∀ W' H' σ' v, Rel S W' σ' H' e' M' → Post W e σ H W' e' σ' H' → Res S W' e' σ' e σ H H' own d v → D.rt v H'
  | some (.exc x, e', M') => ∀ W' H' σ' cls dx, Rel S W' σ' H' e' M' → Post W e σ H W' e' σ' H' → ExR S W' x cls dx H' → w cls dx H'
def TSf (S : Sg) (w : XK) (f : SmS) : TS := fun D σ H => ∃ W e M, Rel S W σ H e M ∧ KS S w W e σ H (f e M) D

def seqS (r : RoS) (k : Env' → Sto → RoS) : RoS :=
  match r with
  | some (.nx, e, M) => k e M
  | x => x
def bindES (r : Ro) (k : Bool → D → Env' → Sto → RoS) : RoS :=
  match r with
  | none => none
  | some (.exc x, e, M) => some (.exc x, e, M)
  | some (.ok own d, e, M) => k own d e M
def bindTS (r : Ro) (k : Bool → Env' → Sto → RoS) : RoS :=
  match r with
  | some (.exc x, e, M) => some (.exc x, e, M)
  | some (.ok _ (.bl b), e, M) => k b e M
  | _ => none
def bindAS (r : RoA) (k : List D → Env' → Sto → RoS) : RoS :=
  match r with
  | none => none
  | some (.exc x, e, M) => some (.exc x, e, M)
  | some (.ok ds, e, M) => k ds e M

section
variable {S : Sg} {w : XK} {W W1 : Wd} {e e1 : Env'} {σ σ1 : L2.St} {H H1 : Hp} {M M1 : Sto}
theorem KS.shift {r : RoS} {D : Ends} (p : Post W e σ H W1 e1 σ1 H1) (h : KS S w W e σ H r D) : KS S w W1 e1 σ1 H1 r D := by
  match r, h with
  | none, h => exact h
  | some (.nx, e', M'), h => exact fun W' H' σ' r' p' => h W' H' σ' r' (p.trans p')
  | some (.rt own d, e', M'), h => exact fun W' H' σ' v r' p' q => h W' H' σ' v r' (p.trans p') (q.shift p)
  | some (.exc x, e', M'), h => exact fun W' H' σ' cls dx r' p' q => h W' H' σ' cls dx r' (p.trans p') q
theorem KS.seq {r : RoS} {k : Env' → Sto → RoS} {D D' : Ends} (h : KS S w W e σ H (seqS r k) D) (hr : D'.rt = D.rt)
    (c : ∀ e1 M1 W1 H1 σ1, Rel S W1 σ1 H1 e1 M1 → Post W e σ H W1 e1 σ1 H1 → KS S w W1 e1 σ1 H1 (k e1 M1) D → D'.nx σ1 H1) : KS S w W e σ H r D' := by
  match r, h with
  | none, h => exact h
  | some (.nx, e', M'), h => exact fun W' H' σ' r p => c e' M' W' H' σ' r p (h.shift p)
  | some (.rt own d, e', M'), h => intro W' H' σ' v r p q; rw [hr]; exact h W' H' σ' v r p q
  | some (.exc x, e', M'), h => exact h
theorem KS.bindE {r : Ro} {k : Bool → EV.D → Env' → Sto → RoS} {D : Ends} {Q' : VK} (h : KS S w W e σ H (bindES r k) D)
    (c : ∀ own d e1 M1 W1 H1 v, Rel S W1 σ H1 e1 M1 → Post W e σ H W1 e1 σ H1 → Res S W1 e1 σ e σ H H1 own d v → KS S w W e σ H (k own d e1 M1) D → Q' v H1) : KE S w W e σ H r Q' := by
  match r, h with
  | none, h => exact h
  | some (.exc x, e', M'), h => exact fun W' H' cls dx r p q => h W' H' σ cls dx r p q
  | some (.ok own d, e', M'), h => exact fun W' H' v r p q => c own d e' M' W' H' v r p q h
theorem KS.bindT {r : Ro} {k : Bool → Env' → Sto → RoS} {D : Ends} {Q' : Bool → Hp → Prop} (h : KS S w W e σ H (bindTS r k) D)
    (c : ∀ b e1 M1 W1 H1, Rel S W1 σ H1 e1 M1 → Post W e σ H W1 e1 σ H1 → KS S w W1 e1 σ H1 (k b e1 M1) D → Q' b H1) : KT S w W e σ H r Q' := by
  match r, h with
  | none, h => exact h
  | some (.exc x, e', M'), h => exact fun W' H' cls dx r p q => h W' H' σ cls dx r p q
  | some (.ok own (.bl b), e', M'), h => exact fun W' H' r p => c b e' M' W' H' r p (h.shift p)

/-! ### storing -/
theorem getElem?_set_cases {α : Type} {l : List α} {i j : Nat} {x y : α} (h : (l.set i x)[j]? = some y) : (j = i ∧ y = x) ∨ (j ≠ i ∧ l[j]? = some y) := by
  by_cases hj : j = i
  · subst hj
    by_cases hl : j < l.length
    · rw [List.getElem?_set_self hl] at h; cases h; exact .inl ⟨rfl, rfl⟩
    · rw [List.getElem?_eq_none (by simpa using hl)] at h; cases h
  · rw [List.getElem?_set_ne (Ne.symm hj)] at h
    exact .inr ⟨hj, h⟩
theorem own_store {i : Nat} {own : Bool} {d : D} {v : V} {b : Addr} (h : Own (e.set i (some (own, d))) (σ.set i (some v)) b) : (own = true ∧ v = .ref b) ∨ Own e σ b := by
  obtain ⟨j, d', h1, h2⟩ := h
  rcases getElem?_set_cases h1 with ⟨rfl, e1⟩ | ⟨hj, e1⟩
  · rcases getElem?_set_cases h2 with ⟨_, e2⟩ | ⟨hj, _⟩
    · cases e1; cases e2; exact .inl ⟨rfl, rfl⟩
    · exact absurd rfl hj
  · rcases getElem?_set_cases h2 with ⟨hj', _⟩ | ⟨_, e2⟩
    · exact absurd hj' hj
    · exact .inr ⟨j, d', e1, e2⟩
/-- a name is stored -/
theorem Rel.store {i : Nat} {own : Bool} {d : D} {v : V} {e₀ : Env'} {σ₀ : L2.St} {H₀ : Hp} (r : Rel S W σ H e M) (q : Res S W e σ e₀ σ₀ H₀ H own d v) : Rel S W (σ.set i (some v)) H (e.set i (some (own, d))) M := by
  have hlen : ∀ (s : Sl), (e.set i (some (own, d)))[i]? = some s → i < σ.length := fun s h => by
    have := (List.getElem?_eq_some_iff.mp h).1
    rw [List.length_set, r.len] at this
    exact this
  refine ⟨by simpa using r.len, fun j d' h => ?_, fun j d' h => ?_, fun j k d1 d2 b h1 h2 h3 h4 => ?_, r.sl, r.st, r.nd, fun b f => ?_, fun b h => ?_⟩
  · rcases getElem?_set_cases h with ⟨rfl, e1⟩ | ⟨hj, e1⟩
    · cases e1
      exact ⟨v, List.getElem?_set_self (hlen _ h), q⟩
    · obtain ⟨u, h1, h2⟩ := r.sh j d' e1
      exact ⟨u, by rw [List.getElem?_set_ne (Ne.symm hj)]; exact h1, h2⟩
  · rcases getElem?_set_cases h with ⟨rfl, e1⟩ | ⟨hj, e1⟩
    · cases e1
      obtain ⟨a, rfl, ob, _⟩ := q
      exact ⟨a, List.getElem?_set_self (hlen _ h), ob⟩
    · obtain ⟨a, h1, h2⟩ := r.ow j d' e1
      exact ⟨a, by rw [List.getElem?_set_ne (Ne.symm hj)]; exact h1, h2⟩
  · rcases getElem?_set_cases h1 with ⟨rfl, e1⟩ | ⟨hj, e1⟩ <;> rcases getElem?_set_cases h2 with ⟨rfl, e2⟩ | ⟨hk, e2⟩
    · rfl
    · cases e1
      obtain ⟨a, rfl, _, _, _, _, no⟩ := q
      rcases getElem?_set_cases h3 with ⟨_, z⟩ | ⟨z, _⟩
      · cases z
        rcases getElem?_set_cases h4 with ⟨z, _⟩ | ⟨_, z⟩
        · exact z.symm
        · exact absurd ⟨k, d2, e2, z⟩ no
      · exact absurd rfl z
    · cases e2
      obtain ⟨a, rfl, _, _, _, _, no⟩ := q
      rcases getElem?_set_cases h4 with ⟨_, z⟩ | ⟨z, _⟩
      · cases z
        rcases getElem?_set_cases h3 with ⟨z, _⟩ | ⟨_, z⟩
        · exact z
        · exact absurd ⟨j, d1, e1, z⟩ no
      · exact absurd rfl z
    · rcases getElem?_set_cases h3 with ⟨z, _⟩ | ⟨_, z3⟩
      · exact absurd z hj
      · rcases getElem?_set_cases h4 with ⟨z, _⟩ | ⟨_, z4⟩
        · exact absurd z hk
        · exact r.inj j k d1 d2 b e1 e2 z3 z4
  · refine ⟨(r.fr b f).1, (r.fr b f).2.1, fun z => ?_⟩
    rcases own_store z with ⟨rfl, rfl⟩ | z
    · obtain ⟨a, h1, _, _, nf, _⟩ := q
      cases h1
      exact nf f
    · exact (r.fr b f).2.2 z
  · rcases own_store h with ⟨rfl, rfl⟩ | z
    · obtain ⟨a, h1, _, _, _, nr, _⟩ := q
      cases h1
      exact nr
    · exact r.or_ b z
theorem Post.store {i : Nat} {own : Bool} {d : D} {v : V} {e0 : Env'} {σ0 : L2.St} {H0 : Hp} {W0 : Wd} (p : Post W0 e0 σ0 H0 W e σ H) (q : Res S W e σ e0 σ0 H0 H own d v) : Post W0 e0 σ0 H0 W (e.set i (some (own, d))) (σ.set i (some v)) H :=
  ⟨p.keep, p.trk, p.grow, p.new, p.pre, p.ron, fun b h => by
    rcases own_store h with ⟨rfl, rfl⟩ | z
    · obtain ⟨a, h1, _, fr, _⟩ := q
      cases h1
      exact fr.symm
    · exact p.own b z⟩
end

section
variable {S : Sg} {w : XK} {X : Cx} {pos : Pos} {a b c : Expr} {f g h : Sm} {st : Stmt} {rest : List Stmt} {s t : SmS}

def ssNil : SmS := fun e M => some (.nx, e, M)
def ssSeq (s t : SmS) : SmS := fun e M => seqS (s e M) t
theorem ss_nil : PSs X [] (TSf S w ssNil) := pssI pss_nil fun D σ H ⟨W, e, M, r, k⟩ => k W H σ r Post.refl
theorem ss_cons (h1 : PS X st (TSf S w s)) (h2 : PSs X rest (TSf S w t)) : PSs X (st :: rest) (TSf S w (ssSeq s t)) :=
  pssI (pss_cons h1 h2) fun D σ H ⟨W, e, M, r, k⟩ => ⟨W, e, M, r, KS.seq k rfl fun e1 M1 W1 H1 σ1 r1 p1 k1 => ⟨W1, e1, M1, r1, k1⟩⟩
theorem ss_one (h1 : PS X st (TSf S w s)) : PSs X [st] (TSf S w s) := pss_one h1
def ssRet (f : Sm) : SmS := fun e M => bindES (f e M) fun own d e1 M1 => some (.rt own d, e1, M1)
theorem ss_ret (ha : PE X a (TEf S w f)) : PS X (.Return (some a) pos) (TSf S w (ssRet f)) :=
  psI (ps_ret ha) fun D σ H ⟨W, e, M, r, k⟩ => ⟨W, e, M, r, KS.bindE k fun own d e1 M1 W1 H1 v r1 p1 q1 k1 => k1 W1 H1 σ v r1 p1 q1⟩
def ssRetN : SmS := fun e M => some (.rt false .non, e, M)
theorem ss_retN : PS X (.Return none pos) (TSf S w ssRetN) :=
  psI ps_retN fun D σ H ⟨W, e, M, r, k⟩ => k W H σ .non r Post.refl (by simp only [Res, Fz])
/-- return x, x one's own: it is given out -/
def ssRetV (i : Nat) : SmS := fun e M =>
  match e[i]? with
  | some (some (false, d)) => some (.rt false d, e, M)
  | some (some (true, d)) => some (.rt true d, e.set i none, M)
  | _ => none
theorem own_drop {e : Env'} {σ : L2.St} {i : Nat} {a : Addr} (h : Own (e.set i none) σ a) : Own e σ a ∧ ∃ (j : Nat) (d : D), j ≠ i ∧ e[j]? = some (some (true, d)) ∧ σ[j]? = some (some (.ref a)) := by
  obtain ⟨j, d', h1, h2⟩ := h
  rcases getElem?_set_cases h1 with ⟨_, z⟩ | ⟨hj, z⟩
  · cases z
  · exact ⟨⟨j, d', z, h2⟩, j, d', hj, z, h2⟩
theorem Rel.drop {W : Wd} {σ : L2.St} {H : Hp} {e : Env'} {M : Sto} (r : Rel S W σ H e M) (i : Nat) : Rel S W σ H (e.set i none) M := by
  have old : ∀ {j : Nat} {s : Bool × D}, (e.set i none)[j]? = some (some s) → e[j]? = some (some s) := fun {j s} h => by
    rcases getElem?_set_cases h with ⟨_, z⟩ | ⟨_, z⟩
    · cases z
    · exact z
  exact ⟨by simpa using r.len, fun j d h => r.sh j d (old h), fun j d h => r.ow j d (old h), fun j k d d' a h1 h2 => r.inj j k d d' a (old h1) (old h2), r.sl, r.st, r.nd, fun a f => ⟨(r.fr a f).1, (r.fr a f).2.1, fun z => (r.fr a f).2.2 (own_drop z).1⟩, fun a z => r.or_ a (own_drop z).1⟩
theorem Post.drop {W : Wd} {σ : L2.St} {H : Hp} {e : Env'} (i : Nat) : Post W e σ H W (e.set i none) σ H :=
  ⟨fun _ _ h _ _ _ => h, fun _ h => h, fun _ h => h, fun _ h => .inl h, fun _ _ h => h, fun _ h => .inl h, fun _ z => .inl (own_drop z).1⟩
theorem ss_retV {i : Nat} {x : Str} {p : Pos} (hN : X.N[i]? = some x) (hv : Vis X.env.scope x) (hd : (x == ("__debug__" : Str)) = false) (hcd : (x == ("__classdict__" : Str)) = false) : PS X (.Return (some (.Name x p)) pos) (TSf S w (ssRetV i)) := by
  refine psI (ps_ret (pe_var hN hv hd hcd)) fun D σ H ⟨W, e, M, r, k⟩ => ?_
  unfold ssRetV at k
  split at k
  · rename_i d h
    obtain ⟨v, h1, h2⟩ := r.sh i d h
    exact ⟨v, h1, k W H σ v r Post.refl h2⟩
  · rename_i d h
    obtain ⟨a, h1, h2⟩ := r.ow i d h
    have oa : Own e σ a := ⟨i, d, h, h1⟩
    refine ⟨.ref a, h1, k W H σ _ (r.drop i) (Post.drop i) ⟨a, rfl, h2, .inr oa, fun f => (r.fr a f).2.2 oa, r.or_ a oa, fun z => ?_⟩⟩
    obtain ⟨_, j, d', hj, z1, z2⟩ := own_drop z
    exact hj (r.inj j i d' d a z1 h z2 h1)
  · exact k.elim
def ssIf (c : Sm) (s t : SmS) : SmS := fun e M => bindTS (c e M) fun b e1 M1 => if b = true then s e1 M1 else t e1 M1
theorem ss_if {b1 b2 : List Stmt} (hc : PT X c (TTf S w h)) (ha : PSs X b1 (TSf S w s)) (hb : PSs X b2 (TSf S w t)) : PS X (.If c b1 b2 pos) (TSf S w (ssIf h s t)) :=
  psI (ps_if hc ha hb) fun D σ H ⟨W, e, M, r, k⟩ => ⟨W, e, M, r, KS.bindT k fun b e1 M1 W1 H1 r1 p1 k1 => by
    cases b with
    | true => exact ⟨W1, e1, M1, r1, k1⟩
    | false => exact ⟨W1, e1, M1, r1, k1⟩⟩
def ssExpr (f : Sm) : SmS := fun e M => bindES (f e M) fun _ _ e1 M1 => some (.nx, e1, M1)
theorem ss_expr (ha : PE X a (TEf S w f)) (hs : swapsWith a none pos.line X.env = pure false) : PS X (.Expr a pos) (TSf S w (ssExpr f)) :=
  psI (ps_expr ha hs) fun D σ H ⟨W, e, M, r, k⟩ => ⟨W, e, M, r, KS.bindE k fun own d e1 M1 W1 H1 v r1 p1 q1 k1 => k1 W1 H1 σ r1 p1⟩
theorem ss_pass : PS X (.Pass pos) (TSf S w ssNil) := psI ps_pass fun D σ H ⟨W, e, M, r, k⟩ => k W H σ r Post.refl

/-! ### assignments -/
def ssAsg (i : Nat) (f : Sm) : SmS := fun e M => bindES (f e M) fun own d e1 M1 => some (.nx, e1.set i (some (own, d)), M1)
theorem asg_of {i : Nat} {D : Ends} {σ : L2.St} {H : Hp} (h : TSf S w (ssAsg i f) D σ H) : tAsg (TEf S w f) (gName i) D σ H := by
  obtain ⟨W, e, M, r, k⟩ := h
  exact ⟨W, e, M, r, KS.bindE k fun own d e1 M1 W1 H1 v r1 p1 q1 k1 => k1 W1 H1 _ (r1.store q1) (p1.store q1)⟩
theorem ss_set {i : Nat} {x : Str} {pos' : Pos} (hN : X.N.Nodup) (hi : X.N[i]? = some x) (hx : Loc X.env.scope x) (ha : PE X a (TEf S w f)) (hs : swapsWith a (some (.Name x pos')) pos.line X.env = pure false) (hf : X.fn x = true ∨ X.env.scope.names.lookup x = some .local) :
    PS X (.Assign [.Name x pos'] a pos) (TSf S w (ssAsg i f)) :=
  psI (ps_set hN hi hx ha hs hf) fun D σ H h => asg_of h

/-- targets of frozen values; ix: the slots that they store -/
def SameOut (ix : List Nat) (σ σ' : L2.St) : Prop := σ'.length = σ.length ∧ ∀ j : Nat, j ∉ ix → σ'[j]? = σ[j]?
theorem SameOut.trans {ix : List Nat} {σ σ1 σ2 : L2.St} (a : SameOut ix σ σ1) (b : SameOut ix σ1 σ2) : SameOut ix σ σ2 := ⟨b.1.trans a.1, fun j h => (b.2 j h).trans (a.2 j h)⟩
theorem SameOut.mono {ix iy : List Nat} {σ σ1 : L2.St} (a : SameOut ix σ σ1) (h : ∀ i ∈ ix, i ∈ iy) : SameOut iy σ σ1 := ⟨a.1, fun j hj => a.2 j fun z => hj (h j z)⟩
def TGf (S : Sg) (ix : List Nat) (as : D → Env' → Option Env') : TG := fun v σ H Q => ∃ W e M d, Rel S W σ H e M ∧ Fz S W H d v ∧ ∃ e', as d e = some e' ∧ ∀ σ', Rel S W σ' H e' M → Post W e σ H W e' σ' H → SameOut ix σ σ' → Q σ' H
def asN (i : Nat) : D → Env' → Option Env' := fun d e => some (e.set i (some (false, d)))
def asT (as : List D → Env' → Option Env') : D → Env' → Option Env' := fun d e => match d with
  | .tup ds => as ds e
  | _ => none
def asNil : List D → Env' → Option Env' := fun ds e => match ds with
  | [] => some e
  | _ => none
def asCons (a1 : D → Env' → Option Env') (as : List D → Env' → Option Env') : List D → Env' → Option Env' := fun ds e => match ds with
  | d :: r => (a1 d e).bind (as r)
  | [] => none
def TGsf (S : Sg) (ix : List Nat) (n : Nat) (as : List D → Env' → Option Env') : TGs := fun vs σ H Q => ∃ W e M ds, Rel S W σ H e M ∧ FzL S W H ds vs ∧ ds.length = n ∧ ∃ e', as ds e = some e' ∧ ∀ σ', Rel S W σ' H e' M → Post W e σ H W e' σ' H → SameOut ix σ σ' → Q σ' H
theorem PGI {X : Cx} {tg : Expr} {t t' : TG} (h : PG X tg t) (i : ∀ v σ H Q, t' v σ H Q → t v σ H Q) : PG X tg t' := ⟨fun pins s σ H v u Q I r q => h.run pins s σ H v u Q I r (i _ _ _ _ q)⟩
theorem PGsI {X : Cx} {tg : List Expr} {t t' : TGs} (h : PGs X tg t) (i : ∀ v σ H Q, t' v σ H Q → t v σ H Q) : PGs X tg t' := ⟨fun pins s σ H v u Q I r q => h.run pins s σ H v u Q I r (i _ _ _ _ q)⟩
theorem sg_name {i : Nat} {x : Str} (hN : X.N.Nodup) (hi : X.N[i]? = some x) (hx : Loc X.env.scope x) (hf : X.fn x = true ∨ X.env.scope.names.lookup x = some .local) : PG X (.Name x pos) (TGf S [i] (asN i)) :=
  PGI (pg_name hN hi hx hf) fun v σ H Q ⟨W, e, M, d, r, q, e', he, k⟩ => by
    cases he
    exact k _ (r.store (e₀ := e) (σ₀ := σ) (H₀ := H) q) (Post.refl.store q) ⟨by simp, fun j hj => List.getElem?_set_ne (fun z => hj (by simp [z]))⟩
theorem sg_nil {ix : List Nat} : PGs X [] (TGsf S ix 0 asNil) := PGsI pgs_nil fun vs σ H Q ⟨W, e, M, ds, r, q, hl, e', he, k⟩ => by
  cases ds with
  | nil => cases he; simp only [FzL] at q; exact ⟨q, k σ r Post.refl ⟨rfl, fun _ _ => rfl⟩⟩
  | cons _ _ => cases hl
theorem sg_cons {n : Nat} {ix iy : List Nat} {x : Expr} {xs : List Expr} (hs : ((assignEach (x :: xs) X.env).map (·.2)) = assign x X.env :: ((assignEach xs X.env).map (·.2))) {a1 : D → Env' → Option Env'} {as : List D → Env' → Option Env'} (h1 : PG X x (TGf S ix a1)) (h2 : PGs X xs (TGsf S iy n as)) : PGs X (x :: xs) (TGsf S (ix ++ iy) (n + 1) (asCons a1 as)) :=
  PGsI (pgs_cons h1 h2 hs) fun vs σ H Q ⟨W, e, M, ds, r, q, hl, e', he, k⟩ => by
    cases ds with
    | nil => cases hl
    | cons d ds =>
      simp only [FzL] at q
      obtain ⟨v, us, rfl, q1, q2⟩ := q
      have he : (a1 d e).bind (as ds) = some e' := he
      cases h3 : a1 d e with
      | none => rw [h3] at he; cases he
      | some e1 =>
        rw [h3] at he
        refine ⟨v, us, rfl, W, e, M, d, r, q1, e1, h3, fun σ1 r1 p1 s1 => ⟨W, e1, M, ds, r1, q2, by simpa using hl, e', he, fun σ2 r2 p2 s2 => k σ2 r2 (p1.trans p2) ((s1.mono fun i h => List.mem_append_left _ h).trans (s2.mono fun i h => List.mem_append_right _ h))⟩⟩
theorem sg_tup {ix : List Nat} {n k : Nat} {xs : List Expr} {as : List D → Env' → Option Env'} (hK : X.K = S.K) (hc : X.calm = true) (h : PGs X xs (TGsf S ix n as)) (hn : (assignEach xs X.env).length = n) (hst : (assignEach xs X.env).findIdx? (·.1) = none) (hs : ∀ ds e e', as ds e = some e' → ds.length = n) : PG X (.Tuple xs k pos) (TGf S ix (asT as)) := by
  refine PGI (pg_tup (n := n) hc h hn hst) fun v σ H Q ⟨W, e, M, d, r, q, e', he, k⟩ => ?_
  cases d with
  | tup ds =>
    simp only [Fz] at q
    obtain ⟨a, vs, rfl, t, l⟩ := q
    have hl := hs ds e e' he
    exact ⟨a, vs, rfl, by rw [hK]; exact t.sq, by rw [← l.length]; exact hl, W, e, M, ds, r, l, hl, e', he, k⟩
  | _ => cases he
end
end EV

/-! EvE: loops, comprehensions, defs. -/
namespace EV
open PySem PySem.Spec PyProof.Rows L2

section
variable {S : Sg} {w : XK} {X : Cx} {pos : Pos} {a b c : Expr} {f g h : Sm} {s t : SmS}

/-! ### while -/
def whL (c : Sm) (body : SmS) : Nat → SmS
  | 0, _, _ => none
  | n + 1, e, M => bindTS (c e M) fun b e1 M1 => if b = true then seqS (body e1 M1) (whL c body n) else some (.nx, e1, M1)
theorem ss_while {body : List Stmt} (n : Nat) (hp : PassesOwn (model X.prog X.w) X.A X.env X.xe) (hc : PT X c (TTf S w h)) (hb : PSs X body (TSf S w s)) : PS X (.While c body [] pos) (TSf S w (whL h s n)) := by
  refine psI (ps_while hp hc hb) fun D σ H ⟨W, e, M, r, k⟩ => ?_
  refine ⟨fun m σ1 H1 => ∃ W1 e1 M1, Rel S W1 σ1 H1 e1 M1 ∧ KS S w W1 e1 σ1 H1 (whL h s m e1 M1) D, ⟨n, W, e, M, r, k⟩, fun m σ1 H1 ⟨W1, e1, M1, r1, k1⟩ => ?_⟩
  cases m with
  | zero => exact k1.elim
  | succ m =>
    refine ⟨W1, e1, M1, r1, KS.bindT k1 fun b e2 M2 W2 H2 r2 p2 k2 => ?_⟩
    cases b with
    | true =>
      rw [if_pos rfl] at k2 ⊢
      exact ⟨fun σ3 H3 => ∃ W3 e3 M3, Rel S W3 σ3 H3 e3 M3 ∧ KS S w W3 e3 σ3 H3 (whL h s m e3 M3) D, fun σ3 H3 z => ⟨m, Nat.lt_succ_self m, z⟩, W2, e2, M2, r2, KS.seq k2 rfl fun e3 M3 W3 H3 σ3 r3 p3 k3 => ⟨W3, e3, M3, r3, k3⟩⟩
    | false =>
      rw [if_neg Bool.false_ne_true] at k2 ⊢
      exact k2 W2 H2 σ1 r2 Post.refl

/-! ### what is walked -/
/-- J yields the data ds, one behind another, while what is frozen stays -/
def ItOk (S : Sg) (J : It) (ds : List D) (W0 : Wd) (H0 : Hp) : Prop := ∀ W H, Stays W0 H0 W H → ∀ i,
  (∀ d, ds[i]? = some d → J.go i H ∧ ∀ x H', J.yld i H x H' → ∀ σ e M, Rel S W σ H e M → ∃ W', Rel S W' σ H' e M ∧ Post W e σ H W' e σ H' ∧ Fz S W' H' d x) ∧ (ds.length ≤ i → J.stop i H)
def KI (S : Sg) (w : XK) (W : Wd) (e : Env') (σ : L2.St) (H : Hp) (r : RoA) (R : It → Hp → Prop) : Prop :=
  match r with
  | none => False
  | some (.ok ds, e', M') => ∀ W' H' J, Rel S W' σ H' e' M' → Post W e σ H W' e' σ H' → ItOk S J ds W' H' → R J H'
  | some (.exc x, e', M') => ∀ W' H' cls dx, Rel S W' σ H' e' M' → Post W e σ H W' e' σ H' → ExR S W' x cls dx H' → w cls dx H'
def TIf (S : Sg) (w : XK) (f : SmA) : TI := fun σ H R => ∃ W e M, Rel S W σ H e M ∧ KI S w W e σ H (f e M) R
theorem KS.bindI {W : Wd} {e : Env'} {σ : L2.St} {H : Hp} {r : RoA} {k : List D → Env' → Sto → RoS} {D : Ends} {R : It → Hp → Prop} (h : KS S w W e σ H (bindAS r k) D)
    (c : ∀ ds e1 M1 W1 H1 J, Rel S W1 σ H1 e1 M1 → ItOk S J ds W1 H1 → KS S w W1 e1 σ H1 (k ds e1 M1) D → R J H1) : KI S w W e σ H r R := by
  match r, h with
  | none, h => exact h
  | some (.exc x, e', M'), h => exact fun W' H' cls dx r p q => h W' H' σ cls dx r p q
  | some (.ok ds, e', M'), h => exact fun W' H' J r p q => c ds e' M' W' H' J r q (h.shift p)
theorem KE.bindI {W : Wd} {e : Env'} {σ : L2.St} {H : Hp} {r : RoA} {k : List D → Env' → Sto → Ro} {Q : VK} {R : It → Hp → Prop} (h : KE S w W e σ H (EV.bindA r k) Q)
    (c : ∀ ds e1 M1 W1 H1 J, Rel S W1 σ H1 e1 M1 → ItOk S J ds W1 H1 → KE S w W1 e1 σ H1 (k ds e1 M1) Q → R J H1) : KI S w W e σ H r R := by
  match r, h with
  | none, h => exact h
  | some (.exc x, e', M'), h => exact h
  | some (.ok ds, e', M'), h => exact fun W' H' J r p q => c ds e' M' W' H' J r q (h.shift p)
theorem TIf.of {σ : L2.St} {H : Hp} {R : It → Hp → Prop} {f : SmA} {W : Wd} {e : Env'} {M : Sto} (r : Rel S W σ H e M) (k : KI S w W e σ H (f e M) R) : TIf S w f σ H R := ⟨W, e, M, r, k⟩

/-! ### for -/
def forL (as : D → Env' → Option Env') (body : SmS) : List D → SmS
  | [], e, M => some (.nx, e, M)
  | d :: r, e, M => match as d e with
    | none => none
    | some e1 => seqS (body e1 M) (forL as body r)
def ssFor (as : D → Env' → Option Env') (fi : SmA) (body : SmS) : SmS := fun e M => bindAS (fi e M) fun ds e1 M1 => forL as body ds e1 M1
theorem ss_for {tg iter : Expr} {body : List Stmt} {ix : List Nat} {as : D → Env' → Option Env'} {fi : SmA} (hp : PassesOwn (model X.prog X.w) X.A X.env X.xe) (hc : X.calm = true) (hi : PI X tg iter (TIf S w fi)) (hg : PG X tg (TGf S ix as)) (hb : PSs X body (TSf S w s))
    (hs : ∀ x, foldedSetIterable iter X.env x = pure x) : PS X (.For tg iter body [] pos) (TSf S w (ssFor as fi s)) := by
  refine psI (ps_for hp hc hi hg hb hs) fun D σ H ⟨W, e, M, r, k⟩ => TIf.of r (KS.bindI k fun ds e1 M1 W1 H1 J r1 it k1 => ?_)
  refine ⟨fun i m σ2 H2 => m = ds.length - i ∧ ∃ W2 e2 M2, Rel S W2 σ2 H2 e2 M2 ∧ Stays W1 H1 W2 H2 ∧ KS S w W2 e2 σ2 H2 (forL as s (ds.drop i) e2 M2) D, ⟨ds.length, rfl, W1, e1, M1, r1, Post.refl.stays r1, k1⟩, fun i m σ2 H2 ⟨hm, W2, e2, M2, r2, st2, k2⟩ => ?_⟩
  obtain ⟨go, stop⟩ := it W2 H2 st2 i
  cases hd : ds[i]? with
  | none =>
    have hl : ds.length ≤ i := List.getElem?_eq_none_iff.mp hd
    rw [List.drop_eq_nil_of_le hl] at k2
    exact .inl ⟨stop hl, k2 W2 H2 σ2 r2 Post.refl⟩
  | some d =>
    obtain ⟨hl, hget⟩ := List.getElem?_eq_some_iff.mp hd
    have hdr : ds.drop i = d :: ds.drop (i + 1) := by rw [← hget]; exact List.drop_eq_getElem_cons hl
    rw [hdr] at k2
    obtain ⟨g1, g2⟩ := go d hd
    refine .inr ⟨g1, fun σ3 H3 => ∃ W3 e3 M3, Rel S W3 σ3 H3 e3 M3 ∧ Stays W1 H1 W3 H3 ∧ KS S w W3 e3 σ3 H3 (forL as s (ds.drop (i + 1)) e3 M3) D, fun σ3 H3 z => ⟨ds.length - (i + 1), by omega, rfl, z⟩, fun x H' hy => ?_⟩
    obtain ⟨W3, r3, p3, f3⟩ := g2 x H' hy σ2 e2 M2 r2
    have k3 := k2.shift p3
    unfold forL at k3
    split at k3
    · exact k3.elim
    · rename_i e4 he4
      have st3 : Stays W1 H1 W3 H' := ⟨fun a f => ⟨((p3.stays r2).f a (st2.f a f).1).1, fun o ho ht => ((p3.stays r2).f a (st2.f a f).1).2 o ((st2.f a f).2 o ho ht) ht⟩, fun n a h => (p3.stays r2).r n a (st2.r n a h)⟩
      refine ⟨W3, e2, M2, d, r3, f3, e4, he4, fun σ4 r4 p4 _ => ⟨W3, e4, M2, r4, KS.seq (k3.shift p4) rfl fun e5 M5 W5 H5 σ5 r5 p5 k5 => ⟨W5, e5, M5, r5, ?_, k5⟩⟩⟩
      have s5 := p5.stays r4
      exact ⟨fun a f => ⟨(s5.f a (st3.f a f).1).1, fun o ho ht => (s5.f a (st3.f a f).1).2 o ((st3.f a f).2 o ho ht) ht⟩, fun n a h => s5.r n a (st3.r n a h)⟩
end
theorem Stays.trans {W W1 W2 : Wd} {H H1 H2 : Hp} (a : Stays W H W1 H1) (b : Stays W1 H1 W2 H2) : Stays W H W2 H2 :=
  ⟨fun x f => ⟨(b.f x (a.f x f).1).1, fun o ho ht => (b.f x (a.f x f).1).2 o ((a.f x f).2 o ho ht) ht⟩, fun n x h => b.r n x (a.r n x h)⟩
theorem Stays.refl {W : Wd} {H : Hp} : Stays W H W H := ⟨fun _ f => ⟨f, fun _ h _ => h⟩, fun _ _ h => h⟩

/-! ### sources -/
section
variable {S : Sg} {w : XK} {X : Cx} {pos : Pos} {a b c tg : Expr} {f g h : Sm}
/-- a list that is frozen -/
theorem it_list {W : Wd} {H : Hp} {p : Addr} {vs : List V} {ds : List D} {K : PySem.W.Frag} (hK : K = S.K) (t : LstAt S W H p vs) (l : FzL S W H ds vs) : ItOk S (Itl K p) ds W H := by
  intro W' H' st i
  have sq : SqL K H' p vs := by
    rw [hK]
    exact .inl (.inl ((st.f p t.1).2 _ t.2 (fun ps e => by cases e)))
  have l' := l.stays st
  refine ⟨fun d hd => ?_, fun hl => ⟨vs, sq, by rw [← l.length]; exact hl⟩⟩
  obtain ⟨v, hv, fv⟩ := l'.get hd
  refine ⟨⟨vs, v, sq, hv⟩, fun x H2 ⟨e, y⟩ σ e0 M r => ?_⟩
  subst e
  have := y vs sq
  rw [hv] at this; cases this
  exact ⟨W', r, Post.refl, fv⟩
theorem it_tup {W : Wd} {H : Hp} {p : Addr} {vs : List V} {ds : List D} {K : PySem.W.Frag} (hK : K = S.K) (t : TupAt S W H p vs) (l : FzL S W H ds vs) : ItOk S (Itt K p) ds W H := by
  intro W' H' st i
  have sq : SqT K H' p vs := by
    rw [hK]
    rcases t with ⟨f, r⟩ | t
    · exact .inl (Rd.stays st f r (fun ps e => by cases e))
    · exact SqT.of0 t
  have l' := l.stays st
  refine ⟨fun d hd => ?_, fun hl => ⟨vs, sq, by rw [← l.length]; exact hl⟩⟩
  obtain ⟨v, hv, fv⟩ := l'.get hd
  refine ⟨⟨vs, v, sq, hv⟩, fun x H2 ⟨e, y⟩ σ e0 M r => ?_⟩
  subst e
  have := y vs sq
  rw [hv] at this; cases this
  exact ⟨W', r, Post.refl, fv⟩
/-- a list or a tuple, whichever it is -/
def iAny (K : PySem.W.Frag) (tl : TE) : TI := fun σ H R => tl σ H fun x H1 => ∃ p, x = .ref p ∧ (((∃ xs, SqL K H1 p xs) ∧ R (Itl K p) H1) ∨ ((∃ xs, SqT K H1 p xs) ∧ R (Itt K p) H1))
def smIt (f : Sm) : SmA := fun e M => bindSA (f e M) fun _ d e1 M1 => match items d with
  | some xs => some (.ok xs, e1, M1)
  | none => none
theorem PII {X : Cx} {tg it : Expr} {t t' : TI} (h : PI X tg it t) (i : ∀ σ H R, t' σ H R → t σ H R) : PI X tg it t' := ⟨fun pins s σ H R I q => h.run pins s σ H R I (i _ _ _ q)⟩
theorem KI.bindF {W : Wd} {e : Env'} {σ : L2.St} {H : Hp} {r : Ro} {k : Bool → D → Env' → Sto → RoA} {R : It → Hp → Prop} {Q' : VK} (h : KI S w W e σ H (bindSA r k) R)
    (c : ∀ own d e1 M1 W1 H1 v, Rel S W1 σ H1 e1 M1 → Fz S W1 H1 d v → KI S w W1 e1 σ H1 (k own d e1 M1) R → Q' v H1) : KE S w W e σ H r Q' := by
  have sh : ∀ {r : RoA} {W1 : Wd} {e1 : Env'} {H1 : Hp}, Post W e σ H W1 e1 σ H1 → KI S w W e σ H r R → KI S w W1 e1 σ H1 r R := fun {r W1 e1 H1} p h => by
    match r, h with
    | none, h => exact h
    | some (.exc x, e', M'), h => exact fun W' H' cls dx r p' q => h W' H' cls dx r (p.trans p') q
    | some (.ok ds, e', M'), h => exact fun W' H' J r p' q => h W' H' J r (p.trans p') q
  match r, h with
  | none, h => exact h
  | some (.exc x, e', M'), h => exact h
  | some (.ok own d, e', M'), h =>
    intro W' H' v r p q
    obtain ⟨W2, r2, p2, f2⟩ := r.res_add p q
    exact c own d e' M' W2 H' v r2 f2 (sh p2 h)
theorem pi_any (hl : PE X a (TEf S w f)) : PI X tg a (iAny X.K (TEf S w f)) := by
  refine ⟨fun pins s σ H R I h => thn (hl.run pins s σ H _ I h) fun v s1 ⟨x, H1, I1, r1, p, ex, q⟩ => ?_⟩
  subst ex
  obtain rfl : v = Value.ref p := r1
  have fin : ∀ (b : Addr), b ∈ [s1.heap.objs.size] → FpOk X pins H1 b := fun b hb => by
    obtain rfl : b = s1.heap.objs.size := by simpa using hb
    exact I1.fpOk (Nat.le_refl _) (I1.hok.fresh (Nat.le_refl _))
  rcases q with ⟨⟨xs, hq⟩, q⟩ | ⟨⟨xs, hq⟩, q⟩
  · obtain ⟨its, _, pl, _⟩ := I1.list hq
    exact wpAny_pyIter_list pl.isList ⟨_, [s1.heap.objs.size], _, _, H1, rfl, I1.kept (t' := s1.toks) fun b o e => Heap.get?_push_of_some _ e, turn_list p _, ⟨_, Heap.get?_push_size _ rfl, rfl, rfl⟩, fin, q⟩
  · obtain ⟨its, _, pl, _⟩ := I1.tuple hq
    exact wpAny_pyIter_tuple (show s1.heap.IsTuple p its.toArray from pl) ⟨_, [s1.heap.objs.size], _, _, H1, rfl, I1.kept (t' := s1.toks) fun b o e => Heap.get?_push_of_some _ e, turn_tuple p _, ⟨_, Heap.get?_push_size _ rfl, rfl, rfl⟩, fin, q⟩
theorem si_any (hK : X.K = S.K) (ha : PE X a (TEf S w f)) : PI X tg a (TIf S w (smIt f)) := by
  refine PII (pi_any ha) fun σ H R ⟨W, e, M, r, k⟩ => ⟨W, e, M, r, KI.bindF k fun own d e1 M1 W1 H1 v r1 f1 k1 => ?_⟩
  cases d with
  | tup xs =>
    simp only [Fz] at f1
    obtain ⟨p, vs, rfl, t, l⟩ := f1
    exact ⟨p, rfl, .inr ⟨⟨vs, by rw [hK]; exact t.sq⟩, k1 W1 H1 _ r1 Post.refl (it_tup hK t l)⟩⟩
  | lst xs =>
    simp only [Fz] at f1
    obtain ⟨p, vs, rfl, t, l⟩ := f1
    exact ⟨p, rfl, .inl ⟨⟨vs, by rw [hK]; exact t.sq⟩, k1 W1 H1 _ r1 Post.refl (it_list hK t l)⟩⟩
  | _ => exact k1.elim
/-- ranges -/
def rangeD (lo : Int) (n : Nat) : List D := (List.range n).map fun (k : Nat) => .int (lo + k)
theorem it_range {W : Wd} {H : Hp} {lo : Int} {n : Nat} : ItOk S (Itr lo n) (rangeD lo n) W H := by
  intro W' H' st i
  refine ⟨fun d hd => ?_, fun hl => (show n ≤ i by simpa [rangeD] using hl)⟩
  have hi : i < n := by
    have := (List.getElem?_eq_some_iff.mp hd).1
    simpa [rangeD] using this
  have e : d = .int (lo + i) := by
    simp [rangeD, List.getElem?_map, List.getElem?_range hi] at hd
    exact hd.symm
  refine ⟨hi, fun x H2 ⟨e1, e2⟩ σ e0 M r => ?_⟩
  subst e1 e2 e
  exact ⟨W', r, Post.refl, by simp only [Fz]⟩
def rngOk (i : Int) : Bool := decide (-(2 ^ 62) ≤ i) && decide (i < 2 ^ 62)
def rg1 : List D → Option (List D)
  | [.int j] => if rngOk j = true then some (rangeD 0 j.toNat) else none
  | _ => none
def rg2 : List D → Option (List D)
  | [.int i, .int j] => if (rngOk i && rngOk j) = true then some (rangeD i (j - i).toNat) else none
  | _ => none
def smRg (p : List D → Option (List D)) (t : SmA) : SmA := fun e M => bindAA (t e M) fun ds e1 M1 => match p ds with
  | some xs => some (.ok xs, e1, M1)
  | none => none
theorem KI.bindA {W : Wd} {e : Env'} {σ : L2.St} {H : Hp} {r : RoA} {k : List D → Env' → Sto → RoA} {R : It → Hp → Prop} {Q' : List V → Hp → Prop} (h : KI S w W e σ H (bindAA r k) R)
    (c : ∀ ds e1 M1 W1 H1 vs, Rel S W1 σ H1 e1 M1 → FzL S W1 H1 ds vs → KI S w W1 e1 σ H1 (k ds e1 M1) R → Q' vs H1) : KA S w W e σ H r Q' := by
  have sh : ∀ {r : RoA} {W1 : Wd} {e1 : Env'} {H1 : Hp}, Post W e σ H W1 e1 σ H1 → KI S w W e σ H r R → KI S w W1 e1 σ H1 r R := fun {r W1 e1 H1} p h => by
    match r, h with
    | none, h => exact h
    | some (.exc x, e', M'), h => exact fun W' H' cls dx r p' q => h W' H' cls dx r (p.trans p') q
    | some (.ok ds, e', M'), h => exact fun W' H' J r p' q => h W' H' J r (p.trans p') q
  match r, h with
  | none, h => exact h
  | some (.exc x, e', M'), h => exact h
  | some (.ok ds, e', M'), h => exact fun W' H' vs r p q => c ds e' M' W' H' vs r q (sh p h)
theorem FzL.ints1 {W : Wd} {H : Hp} {i : Int} {vs : List V} (h : FzL S W H [.int i] vs) : vs = [.int i] := by
  simp only [FzL, Fz] at h
  obtain ⟨v, r, rfl, rfl, rfl⟩ := h
  rfl
theorem FzL.ints2 {W : Wd} {H : Hp} {i j : Int} {vs : List V} (h : FzL S W H [.int i, .int j] vs) : vs = [.int i, .int j] := by
  simp only [FzL, Fz] at h
  obtain ⟨v, r, rfl, rfl, u, t, rfl, rfl, rfl⟩ := h
  rfl
theorem rngOk_of {i : Int} (h : rngOk i = true) : -(2 ^ 62) ≤ i ∧ i < 2 ^ 62 := by
  unfold rngOk at h
  simpa using h
theorem si_range1 {p : Pos} {t : SmA} (hg : Gl X "range") (hm : X.mg "range" = none) (ha : PA X [a] (TAf S w t)) (hs : starEach [a] X.env = [(false, eval a X.env)]) : PI X tg (.Call (.Name "range" p) [a] [] pos) (TIf S w (smRg rg1 t)) := by
  refine PII (pi_range1 hg hm ha hs) fun σ H R ⟨W, e, M, r, k⟩ => ⟨W, e, M, r, KI.bindA k fun ds e1 M1 W1 H1 vs r1 f1 k1 => ?_⟩
  split at k1
  · rename_i xs hx
    unfold rg1 at hx
    split at hx
    · rename_i j
      split at hx
      · rename_i hj
        cases hx
        rw [f1.ints1]
        obtain ⟨h1, h2⟩ := rngOk_of hj
        exact ⟨j, rfl, h1, h2, k1 W1 H1 _ r1 Post.refl it_range⟩
      · cases hx
    · cases hx
  · exact k1.elim
theorem si_range2 {p : Pos} {t : SmA} (hg : Gl X "range") (hm : X.mg "range" = none) (ha : PA X [a, b] (TAf S w t)) (hs : starEach [a, b] X.env = [(false, eval a X.env), (false, eval b X.env)]) (hs2 : starEach [b] X.env = [(false, eval b X.env)]) : PI X tg (.Call (.Name "range" p) [a, b] [] pos) (TIf S w (smRg rg2 t)) := by
  refine PII (pi_range2 hg hm ha hs hs2) fun σ H R ⟨W, e, M, r, k⟩ => ⟨W, e, M, r, KI.bindA k fun ds e1 M1 W1 H1 vs r1 f1 k1 => ?_⟩
  split at k1
  · rename_i xs hx
    unfold rg2 at hx
    split at hx
    · rename_i i j
      split at hx
      · rename_i hj
        cases hx
        rw [f1.ints2]
        obtain ⟨hj1, hj2⟩ := Bool.and_eq_true_iff.mp hj
        obtain ⟨h1, h2⟩ := rngOk_of hj1
        obtain ⟨h3, h4⟩ := rngOk_of hj2
        exact ⟨i, j, rfl, ⟨h1, h2, h3, h4⟩, k1 W1 H1 _ r1 Post.refl it_range⟩
      · cases hx
    · cases hx
  · exact k1.elim

/-! ### comprehensions -/
def wipeE (e : Env') : List Nat → Env'
  | [] => e
  | i :: is => (wipeE e is).set i none
def nex (r : Ro) : Ro := match r with
  | some (.exc _, _, _) => none
  | x => x
/-- the turns: a test, the element; the own names forgotten behind each; nothing is raised within -/
def cpL (own : List Nat) (as : D → Env' → Option Env') (test elt : Sm) : List D → List D → Env' → Sto → Ro
  | [], acc, e, M => some (.ok true (.lst acc), e, M)
  | d :: r, acc, e, M => match as d e with
    | none => none
    | some e1 => bindT (nex (test e1 M)) fun b e2 M2 =>
      if b = true then bindS (nex (elt e2 M2)) fun _ x e3 M3 => if acc.length < sizeLine then cpL own as test elt r (acc ++ [x]) (wipeE e3 own) M3 else none
      else cpL own as test elt r acc (wipeE e2 own) M2
def smLc (own : List Nat) (as : D → Env' → Option Env') (fi : SmA) (test elt : Sm) : Sm := fun e M => bindA (fi e M) fun ds e1 M1 => cpL own as test elt ds [] (wipeE e1 own) M1
theorem wipeE_get {e : Env'} {i : Nat} {s : Bool × D} : ∀ {own : List Nat}, (wipeE e own)[i]? = some (some s) → e[i]? = some (some s) ∧ i ∉ own
  | [], h => ⟨h, by simp⟩
  | j :: js, h => by
    rcases getElem?_set_cases (show ((wipeE e js).set j none)[i]? = some (some s) from h) with ⟨_, z⟩ | ⟨hj, z⟩
    · cases z
    · obtain ⟨h1, h2⟩ := wipeE_get z
      exact ⟨h1, by simp only [List.mem_cons, not_or]; exact ⟨hj, h2⟩⟩
theorem wipeE_len {e : Env'} : ∀ {own : List Nat}, (wipeE e own).length = e.length
  | [] => rfl
  | j :: js => by show ((wipeE e js).set j none).length = _; rw [List.length_set, wipeE_len]
theorem wipe_get {σ : L2.St} {i : Nat} : ∀ {own : List Nat}, i ∉ own → (wipe σ own)[i]? = σ[i]?
  | [], _ => rfl
  | j :: js, h => by
    simp only [List.mem_cons, not_or] at h
    show ((wipe σ js).set j none)[i]? = _
    rw [List.getElem?_set_ne (Ne.symm h.1), wipe_get h.2]
theorem own_wipe {e : Env'} {σ : L2.St} {own : List Nat} {a : Addr} : Own (wipeE e own) (wipe σ own) a ↔ Own (wipeE e own) σ a := by
  constructor <;> intro ⟨i, d, h1, h2⟩
  · exact ⟨i, d, h1, by rwa [wipe_get (wipeE_get h1).2] at h2⟩
  · exact ⟨i, d, h1, by rw [wipe_get (wipeE_get h1).2]; exact h2⟩
theorem own_wipeE {e : Env'} {σ : L2.St} {own : List Nat} {a : Addr} (h : Own (wipeE e own) σ a) : Own e σ a := by
  obtain ⟨i, d, h1, h2⟩ := h
  exact ⟨i, d, (wipeE_get h1).1, h2⟩
theorem Rel.forget {W : Wd} {σ : L2.St} {H : Hp} {e : Env'} {M : Sto} (r : Rel S W σ H e M) (own : List Nat) : Rel S W σ H (wipeE e own) M :=
  ⟨by rw [wipeE_len]; exact r.len, fun i d h => r.sh i d (wipeE_get h).1, fun i d h => r.ow i d (wipeE_get h).1, fun i j d d' a h1 h2 => r.inj i j d d' a (wipeE_get h1).1 (wipeE_get h2).1, r.sl, r.st, r.nd, fun a f => ⟨(r.fr a f).1, (r.fr a f).2.1, fun z => (r.fr a f).2.2 (own_wipeE z)⟩, fun a z => r.or_ a (own_wipeE z)⟩
theorem Rel.wipe {W : Wd} {σ : L2.St} {H : Hp} {e : Env'} {M : Sto} {own : List Nat} : Rel S W (L2.wipe σ own) H (wipeE e own) M ↔ Rel S W σ H (wipeE e own) M := by
  constructor <;> intro r
  · refine ⟨by rw [r.len, wipe_length], fun i d h => ?_, fun i d h => ?_, fun i j d d' a h1 h2 h3 h4 => ?_, r.sl, r.st, r.nd, fun a f => ⟨(r.fr a f).1, (r.fr a f).2.1, fun z => (r.fr a f).2.2 (own_wipe.mpr z)⟩, fun a z => r.or_ a (own_wipe.mpr z)⟩
    · have q := r.sh i d h
      rwa [wipe_get (wipeE_get h).2] at q
    · have q := r.ow i d h
      rwa [wipe_get (wipeE_get h).2] at q
    · exact r.inj i j d d' a h1 h2 (by rw [wipe_get (wipeE_get h1).2]; exact h3) (by rw [wipe_get (wipeE_get h2).2]; exact h4)
  · refine ⟨by rw [wipe_length]; exact r.len, fun i d h => ?_, fun i d h => ?_, fun i j d d' a h1 h2 h3 h4 => ?_, r.sl, r.st, r.nd, fun a f => ⟨(r.fr a f).1, (r.fr a f).2.1, fun z => (r.fr a f).2.2 (own_wipe.mp z)⟩, fun a z => r.or_ a (own_wipe.mp z)⟩
    · rw [wipe_get (wipeE_get h).2]; exact r.sh i d h
    · rw [wipe_get (wipeE_get h).2]; exact r.ow i d h
    · exact r.inj i j d d' a h1 h2 (by rwa [wipe_get (wipeE_get h1).2] at h3) (by rwa [wipe_get (wipeE_get h2).2] at h4)
/-- what may change, whatever the slots: by what is owned at the two ends -/
theorem Post.re {W W' : Wd} {e e' e1 e1' : Env'} {σ σ' σ1 σ1' : L2.St} {H H' : Hp} (p : Post W e σ H W' e' σ' H') (h1 : ∀ a, Own e σ a → Own e1 σ1 a) (h2 : ∀ a, Own e1' σ1' a → Own e' σ' a) : Post W e1 σ1 H W' e1' σ1' H' :=
  ⟨fun a o h ht no nr => p.keep a o h ht (fun z => no (h1 a z)) nr, p.trk, p.grow, fun a f => by
    rcases p.new a f with z | z | z | z
    · exact .inl z
    · exact .inr (.inl z)
    · exact .inr (.inr (.inl (h1 a z)))
    · exact .inr (.inr (.inr z)), p.pre, p.ron, fun a z => (p.own a (h2 a z)).imp (h1 a) id⟩
theorem list_ext {α : Type} {l m : List α} (hl : l.length = m.length) (h : ∀ i : Nat, l[i]? = m[i]?) : l = m := List.ext_getElem? h
theorem wipe_same {σ σ' : L2.St} {own ix : List Nat} (h : SameOut ix σ σ') (hi : ∀ i ∈ ix, i ∈ own) : wipe σ' own = wipe σ own := by
  refine List.ext_getElem? fun i => ?_
  by_cases hm : i ∈ own
  · have at_ : ∀ (τ : L2.St) (js : List Nat), i ∈ js → i < τ.length → (wipe τ js)[i]? = some none := fun τ js => by
      induction js with
      | nil => intro hm; cases hm
      | cons j js ih =>
        intro hm hl
        show ((wipe τ js).set j none)[i]? = some none
        by_cases hj : j = i
        · subst hj
          rw [List.getElem?_set_self (by rw [wipe_length]; exact hl)]
        · rw [List.getElem?_set_ne hj]
          rcases List.mem_cons.mp hm with z | z
          · exact absurd z.symm hj
          · exact ih z hl
    by_cases hl : i < σ.length
    · rw [at_ σ' own hm (by rw [h.1]; exact hl), at_ σ own hm hl]
    · rw [List.getElem?_eq_none (by rw [wipe_length, h.1]; omega), List.getElem?_eq_none (by rw [wipe_length]; omega)]
  · rw [wipe_get hm, wipe_get hm]
    exact h.2 i fun z => hm (hi i z)
/-- one's own list D, while it is filled -/
structure Filling (S : Sg) (W : Wd) (e : Env') (σ : L2.St) (H : Hp) (D : Addr) (acc : List EV.D) : Prop where
  at_ : ∃ vs, H D = some (.lst vs) ∧ FzL S W H acc vs
  nf : ¬ W.F D
  nr : D ∉ W.ρ
  no : ¬ Own e σ D
theorem Filling.post {W W' : Wd} {e e' : Env'} {σ σ' : L2.St} {H H' : Hp} {M : Sto} {D : Addr} {acc : List EV.D} (f : Filling S W e σ H D acc) (r : Rel S W σ H e M) (p : Post W e σ H W' e' σ' H') : Filling S W' e' σ' H' D acc := by
  obtain ⟨vs, h1, h2⟩ := f.at_
  have tr : ¬ Nw H D := nw_no h1 (fun ps z => by cases z)
  refine ⟨⟨vs, p.keep D _ h1 (fun ps z => by cases z) f.no f.nr, h2.stays (p.stays r)⟩, fun z => ?_, fun z => ?_, fun z => ?_⟩
  · rcases p.new D z with z | z | z | z
    · exact f.nf z
    · exact tr z
    · exact f.no z
    · exact f.nr z
  · rcases p.ron D z with z | z
    · exact f.nr z
    · exact tr z
  · rcases p.own D z with z | z
    · exact f.no z
    · exact tr z
/-- one's own pending object is written -/
theorem Stays.put {W : Wd} {H : Hp} {p : Addr} {o : HO} (nf : ¬ W.F p) : Stays W H W (upd H p o) :=
  ⟨fun a f => ⟨f, fun u e _ => by rw [upd_ne (show a ≠ p from fun z => nf (z ▸ f))]; exact e⟩, fun _ _ h => h⟩
theorem Rel.put {W : Wd} {σ : L2.St} {H : Hp} {e : Env'} {M : Sto} {p : Addr} {o o₀ : HO} (r : Rel S W σ H e M) (h0 : H p = some o₀) (pl : Unc p o₀) (nf : ¬ W.F p) (nr : p ∉ W.ρ) (no : ¬ Own e σ p) : Rel S W σ (upd H p o) e M := by
  have st : Stays W H W (upd H p o) := Stays.put nf
  refine ⟨r.len, fun i d h => ?_, fun i d h => ?_, r.inj, r.sl, fun n x h => ?_, ⟨r.nd.1, tabs_upd r.nd.2 h0 pl⟩, fun a f => ?_, r.or_⟩
  · obtain ⟨v, h1, h2⟩ := r.sh i d h
    exact ⟨v, h1, h2.stays st⟩
  · obtain ⟨a, h1, h2⟩ := r.ow i d h
    exact ⟨a, h1, h2.stays st fun u e _ => by rw [upd_ne (show a ≠ p from fun z => no ⟨i, d, h, z ▸ h1⟩)]; exact e⟩
  · obtain ⟨a, h1, h2⟩ := r.st n x h
    exact ⟨a, h1, h2.stays st fun u e _ => by rw [upd_ne (show a ≠ p from fun z => nr (z ▸ List.mem_of_getElem? h1))]; exact e⟩
  · obtain ⟨⟨u, hu, ht⟩, h2⟩ := r.fr a f
    exact ⟨⟨u, by rw [upd_ne (show a ≠ p from fun z => nf (z ▸ f))]; exact hu, ht⟩, h2⟩
theorem Post.put {W W' : Wd} {e e' : Env'} {σ σ' : L2.St} {H H' : Hp} {p : Addr} {o : HO} (q : Post W e σ H W' e' σ' H') (h : H p = none) : Post W e σ H W' e' σ' (upd H' p o) :=
  ⟨fun a u e ht no nr => by rw [upd_ne (ne_of_none e h)]; exact q.keep a u e ht no nr, fun a z => by
    by_cases e : a = p
    · subst e; exact absurd (.inl h) z
    · exact nw_grow (fun u hu _ => by rw [upd_ne e]; exact hu) (q.trk a z), q.grow, q.new, q.pre, q.ron, q.own⟩
/-- a run within another's block: it raises nothing -/
theorem KE.inE {W W3 : Wd} {e e4 : Env'} {σ σ4 : L2.St} {H H3 : Hp} {r : Ro} {k : Bool → D → Env' → Sto → Ro} {Q : VK} {Q' : VK} {w' : XK} (h : KE S w W e σ H (bindS (nex r) k) Q)
    (c : ∀ own d e1 M1, KE S w W e σ H (k own d e1 M1) Q → ∀ W1 H1 v, Rel S W1 σ4 H1 e1 M1 → Post W3 e4 σ4 H3 W1 e1 σ4 H1 → Res S W1 e1 σ4 e4 σ4 H3 H1 own d v → Q' v H1) : KE S w' W3 e4 σ4 H3 r Q' := by
  match r, h with
  | none, h => exact h
  | some (.exc x, e', M'), h => exact h.elim
  | some (.ok own d, e', M'), h => exact c own d e' M' h
theorem KE.inT {W W3 : Wd} {e e4 : Env'} {σ σ4 : L2.St} {H H3 : Hp} {r : Ro} {k : Bool → Env' → Sto → Ro} {Q : VK} {Q' : Bool → Hp → Prop} {w' : XK} (h : KE S w W e σ H (EV.bindT (nex r) k) Q)
    (c : ∀ b e1 M1, KE S w W e σ H (k b e1 M1) Q → ∀ W1 H1, Rel S W1 σ4 H1 e1 M1 → Post W3 e4 σ4 H3 W1 e1 σ4 H1 → Q' b H1) : KT S w' W3 e4 σ4 H3 r Q' := by
  match r, h with
  | none, h => exact h
  | some (.exc x, e', M'), h => exact h.elim
  | some (.ok own (.bl b), e', M'), h => exact c b e' M' h
theorem wipe_wipe {σ : L2.St} {own : List Nat} : wipe (wipe σ own) own = wipe σ own :=
  wipe_same (ix := own) ⟨wipe_length σ own, fun j h => wipe_get h⟩ fun _ h => h
def wF : XK := fun _ _ _ => False
theorem own_wipe_len {σ : L2.St} {own : List Nat} : True := trivial
theorem lc_of {own ix : List Nat} {as : D → Env' → Option Env'} {fi : SmA} {test elt : Sm} {σ : L2.St} {H : Hp} {Q : VK} (hix : ∀ i ∈ ix, i ∈ own) (h0 : TEf S w (smLc own as fi test elt) σ H Q) :
    tLc (TIf S w fi) (TGf S ix as) (TTf S wF test) (TEf S wF elt) own σ H Q := by
  obtain ⟨W, e, M, r, k⟩ := h0
  refine TIf.of r (KE.bindI k fun ds e1 M1 W1 H1 J r1 it k1 Dd hD => ?_)
  refine ⟨fun i m Hx => m = ds.length - i ∧ ∃ W2 e2 M2 acc, Rel S W2 σ Hx (wipeE e2 own) M2 ∧ Post W1 e1 σ H1 W2 (wipeE e2 own) σ Hx ∧ Stays W1 H1 W2 Hx ∧ Filling S W2 (wipeE e2 own) σ Hx Dd acc ∧
    KE S w W1 e1 σ H1 (cpL own as test elt (ds.drop i) acc (wipeE e2 own) M2) Q, ⟨ds.length, rfl, W1, e1, M1, [], ?_⟩, fun i m Hx ⟨hm, W2, e2, M2, acc, r2, p2, st2, fl2, k2⟩ => ?_⟩
  · have rf := r1.forget own
    refine ⟨rf.grown (upd_keep hD), ?_, Stays.laid0 hD, ⟨⟨[], upd_same, FzL.nil⟩, r1.none_F hD, r1.none_sto hD, rf.none_own hD⟩, k1⟩
    exact (Post.grown (e := e1) (σ := σ) (upd_keep hD)).re (fun a z => z) (fun a z => own_wipeE z)
  obtain ⟨go, stop⟩ := it W2 Hx st2 i
  cases hd : ds[i]? with
  | none =>
    have hl : ds.length ≤ i := List.getElem?_eq_none_iff.mp hd
    rw [List.drop_eq_nil_of_le hl] at k2
    obtain ⟨vs, h1, h2⟩ := fl2.at_
    exact .inl ⟨stop hl, k2 W2 Hx (.ref Dd) r2 p2 ⟨Dd, rfl, ⟨vs, h1, h2⟩, .inl (.inl hD), fl2.nf, fl2.nr, fl2.no⟩⟩
  | some d =>
    obtain ⟨hl, hget⟩ := List.getElem?_eq_some_iff.mp hd
    have hdr : ds.drop i = d :: ds.drop (i + 1) := by rw [← hget]; exact List.drop_eq_getElem_cons hl
    rw [hdr] at k2
    obtain ⟨g1, g2⟩ := go d hd
    refine .inr ⟨g1, fun H3 => ∃ W2 e2 M2 acc, Rel S W2 σ H3 (wipeE e2 own) M2 ∧ Post W1 e1 σ H1 W2 (wipeE e2 own) σ H3 ∧ Stays W1 H1 W2 H3 ∧ Filling S W2 (wipeE e2 own) σ H3 Dd acc ∧
      KE S w W1 e1 σ H1 (cpL own as test elt (ds.drop (i + 1)) acc (wipeE e2 own) M2) Q, fun H3 z => ⟨ds.length - (i + 1), by omega, rfl, z⟩, fun x H' hy => ?_⟩
    have r2w := Rel.wipe.mpr r2
    obtain ⟨W3, r3, p3, f3⟩ := g2 x H' hy _ _ M2 r2w
    unfold cpL at k2
    split at k2
    · exact k2.elim
    rename_i e4 he4
    refine ⟨W3, wipeE e2 own, M2, d, r3, f3, e4, he4, fun σ4 r4 p4 s4 => ⟨(wipe_same s4 hix).trans wipe_wipe, W3, e4, M2, r4, KE.inT k2 fun b e5 M5 k5 W5 H5 r5 p5 => ?_⟩⟩
    have hw4 : wipe σ4 own = wipe σ own := (wipe_same s4 hix).trans wipe_wipe
    -- from the turn's start to here
    have p5' : Post W2 (wipeE e2 own) (wipe σ own) Hx W5 e5 σ4 H5 := (p3.trans p4).trans p5
    have back : ∀ {W6 : Wd} {e6 : Env'} {H6 : Hp} {M6 : Sto}, Rel S W6 σ4 H6 e6 M6 → Post W2 (wipeE e2 own) (wipe σ own) Hx W6 e6 σ4 H6 → Rel S W6 σ H6 (wipeE e6 own) M6 ∧ Post W2 (wipeE e2 own) σ Hx W6 (wipeE e6 own) σ H6 := fun {W6 e6 H6 M6} r6 p6 => by
      have ra : Rel S W6 (wipe σ4 own) H6 (wipeE e6 own) M6 := Rel.wipe.mpr (r6.forget own)
      rw [hw4] at ra
      refine ⟨Rel.wipe.mp ra, p6.re (fun a z => own_wipe.mp z) (fun a z => own_wipeE (own := own) ?_)⟩
      have z2 : Own (wipeE e6 own) (wipe σ own) a := own_wipe.mpr z
      rw [← hw4] at z2
      exact own_wipe.mp z2
    have fl2w : Filling S W2 (wipeE e2 own) (wipe σ own) Hx Dd acc := ⟨fl2.at_, fl2.nf, fl2.nr, fun z => fl2.no (own_wipe.mp z)⟩
    cases b with
    | false =>
      rw [if_neg Bool.false_ne_true] at k5 ⊢
      obtain ⟨ra, pa⟩ := back r5 p5'
      exact ⟨W5, e5, M5, acc, ra, p2.trans pa, st2.trans (pa.stays r2), fl2.post r2 pa, k5⟩
    | true =>
      rw [if_pos rfl] at k5 ⊢
      refine ⟨W5, e5, M5, r5, KE.inE k5 fun own6 y e6 M6 k6 W6 H6 v6 r6 p6 q6 => ?_⟩
      split at k6
      · rename_i hlen
        obtain ⟨W7, r7, p7, f7⟩ := r6.res_add p6 q6
        have p7' := p5'.trans p7
        have fl7 := fl2w.post r2w p7'
        obtain ⟨vs, h1, h2⟩ := fl7.at_
        obtain ⟨ra, pa⟩ := back r7 p7'
        have no7 : ¬ Own (wipeE e6 own) σ Dd := (fl2.post r2 pa).no
        have st : Stays W7 H6 W7 (upd H6 Dd (.lst (vs ++ [v6]))) := Stays.put fl7.nf
        refine ⟨vs, h1, by rw [← h2.length]; exact hlen, W7, e6, M6, acc ++ [y], ra.put h1 Unc.lst fl7.nf fl7.nr no7, (p2.trans pa).put hD, (st2.trans (pa.stays r2)).trans st, ⟨⟨_, upd_same, ?_⟩, fl7.nf, fl7.nr, no7⟩, k6⟩
        exact (FzL.append h2 (FzL.cons f7 FzL.nil)).stays st
      · exact k6.elim
theorem spt_nil : PTs X [] (TTf S w (smC (.bl true))) := ⟨fun pins s σ H Q I ⟨W, e, M, r, k⟩ => pts_nil.run pins s σ H Q I (k W H r Post.refl)⟩
theorem spt_one (h : PT X c (TTf S w f)) : PTs X [c] (TTf S w f) := pts_one h
theorem se_lc {elt iter : Expr} {ifs : List Expr} {scope : Scope} {own : List (Str × Nat)} {ix : List Nat} {as : D → Env' → Option Env'} {fi : SmA} {test elf : Sm} (hc : X.calm = true) (hN : X.N.Nodup) (hi : PI X tg iter (TIf S w fi)) (ok : BlkOk X.N X.env.scope scope own)
    (hg : ∀ (s : Shared) (H : Hp) (C : Addr) (cl : List (Str × Addr)) (fp : List Addr), PG (X.blk s H scope (compEnvC scope cl C X.env) fp) tg (TGf S ix as))
    (ht : ∀ (s : Shared) (H : Hp) (C : Addr) (cl : List (Str × Addr)) (fp : List Addr), PTs (X.blk s H scope (compEnvC scope cl C X.env) fp) ifs (TTf S wF test))
    (he : ∀ (s : Shared) (H : Hp) (C : Addr) (cl : List (Str × Addr)) (fp : List Addr), PE (X.blk s H scope (compEnvC scope cl C X.env) fp) elt (TEf S wF elf)) (hs : ∀ x, foldedSetIterable iter X.env x = pure x) (hix : ∀ i ∈ ix, i ∈ own.map (·.2)) :
    PE X (.ListComp elt [⟨tg, iter, ifs, 0⟩] scope pos) (TEf S w (smLc (own.map (·.2)) as fi test elf)) :=
  peI (pe_lc hc hN hi ok hg ht he hs) fun _ _ _ h => lc_of hix h
/-- x = [..] on one line -/
theorem ss_setLc {i : Nat} {y : Str} {py spos : Pos} {elt iter : Expr} {ifs : List Expr} {scope : Scope} {own : List (Str × Nat)} {ix : List Nat} {as : D → Env' → Option Env'} {fi : SmA} {test elf : Sm} (hc : X.calm = true) (hN : X.N.Nodup) (hy : X.N[i]? = some y) (hyl : X.env.scope.names.lookup y = some .local)
    (hsw : swapsWith (.ListComp elt [⟨tg, iter, ifs, 0⟩] scope pos) (some (.Name y py)) spos.line X.env = pure true) (hi : PI X tg iter (TIf S w fi)) (ok : BlkOk X.N X.env.scope scope own)
    (hg : ∀ (s : Shared) (H : Hp) (C : Addr) (cl : List (Str × Addr)) (fp : List Addr), PG (X.blk s H scope (compEnvC scope cl C X.env) fp) tg (TGf S ix as))
    (ht : ∀ (s : Shared) (H : Hp) (C : Addr) (cl : List (Str × Addr)) (fp : List Addr), PTs (X.blk s H scope (compEnvC scope cl C X.env) fp) ifs (TTf S wF test))
    (he : ∀ (s : Shared) (H : Hp) (C : Addr) (cl : List (Str × Addr)) (fp : List Addr), PE (X.blk s H scope (compEnvC scope cl C X.env) fp) elt (TEf S wF elf)) (hs : ∀ x, foldedSetIterable iter X.env x = pure x) (hix : ∀ i ∈ ix, i ∈ own.map (·.2)) :
    PS X (.Assign [.Name y py] (.ListComp elt [⟨tg, iter, ifs, 0⟩] scope pos) spos) (TSf S w (ssAsg i (smLc (own.map (·.2)) as fi test elf))) :=
  psI (ps_setLc hc hN hy hyl hsw hi ok hg ht he hs) fun D σ H h => by
    obtain ⟨W, e, M, r, k⟩ := h
    have z : TEf S w (smLc (own.map (·.2)) as fi test elf) σ H (fun x H1 => gName i x σ H1 D.nx) := ⟨W, e, M, r, KS.bindE k fun own2 d e1 M1 W1 H1 v r1 p1 q1 k1 => k1 W1 H1 _ (r1.store q1) (p1.store q1)⟩
    exact lc_of hix z

/-! ### a def's body -/
def init (n : Nat) (ds : List D) : Env' := ds.map (fun d => some (false, d)) ++ List.replicate (n - ds.length) none
def runB (np n : Nat) (body : SmS) : Fs := fun ds M =>
  if ds.length = np then
    match body (init n ds) M with
    | some (.rt own d, _, M') => some (.ok own d, M')
    | some (.nx, _, M') => some (.ok false .non, M')
    | some (.exc x, _, M') => some (.exc x, M')
    | none => none
  else none
theorem init_not {n : Nat} {ds : List D} {i : Nat} {d : D} : (init n ds)[i]? ≠ some (some (true, d)) := fun h => by
  unfold init at h
  by_cases hi : i < ds.length
  · rw [List.getElem?_append_left (by simpa using hi), List.getElem?_map, List.getElem?_eq_getElem hi] at h
    cases h
  · rw [List.getElem?_append_right (by simpa using hi), List.getElem?_replicate] at h
    split at h <;> cases h
theorem init_sh {n : Nat} {ds : List D} {i : Nat} {d : D} (h : (init n ds)[i]? = some (some (false, d))) : ds[i]? = some d := by
  unfold init at h
  by_cases hi : i < ds.length
  · rw [List.getElem?_append_left (by simpa using hi), List.getElem?_map] at h
    rw [List.getElem?_eq_getElem hi] at h ⊢
    cases h; rfl
  · rw [List.getElem?_append_right (by simpa using hi), List.getElem?_replicate] at h
    split at h <;> cases h
theorem own_init {n : Nat} {ds : List D} {σ : L2.St} {a : Addr} : ¬ Own (init n ds) σ a := fun ⟨i, d, h, _⟩ => init_not h
theorem Rel.enter {W : Wd} {H : Hp} {M : Sto} {N : List Str} {ds : List D} {vs : List V} (r : Rel S W [] H [] M) (l : FzL S W H ds vs) : Rel S W (L2.start N vs) H (init N.length ds) M := by
  have hl := l.length
  refine ⟨by simp [init, L2.start, hl], fun i d h => ?_, fun i d h => absurd h init_not, fun i j d d' a h => absurd h init_not, r.sl, r.st, r.nd, fun a f => ⟨(r.fr a f).1, (r.fr a f).2.1, own_init⟩, fun a h => absurd h own_init⟩
  obtain ⟨v, hv, fv⟩ := l.get (init_sh h)
  refine ⟨v, ?_, fv⟩
  unfold L2.start
  have hi := (List.getElem?_eq_some_iff.mp hv).1
  rw [List.getElem?_append_left (by simpa using hi), List.getElem?_map, hv]
  rfl
theorem KS.body {E : XK} {np : Nat} {N : List Str} {body : SmS} {ds : List D} {vs : List V} {W : Wd} {H : Hp} {M : Sto} {Q : VK} (r : Rel S W [] H [] M) (k : KE S E W [] [] H (upE (runB np N.length body ds M) []) Q) :
    KS S E W (init N.length ds) (L2.start N vs) H (body (init N.length ds) M) { nx := fun _ H' => Q .non H', rt := Q } := by
  unfold runB at k
  split at k
  · have leave : ∀ {W' : Wd} {e' : Env'} {σ' : L2.St} {H' : Hp} {M' : Sto}, Rel S W' σ' H' e' M' → Post W (init N.length ds) (L2.start N vs) H W' e' σ' H' → Rel S W' [] H' [] M' ∧ Post W [] [] H W' [] [] H' := fun r' p =>
      ⟨r'.leave, p.re (fun a z => absurd z own_init) (fun a z => absurd z own_nil)⟩
    match hb : body (init N.length ds) M, k with
    | none, k => exact k.elim
    | some (.nx, e', M'), k =>
      intro W' H' σ' r' p
      obtain ⟨r2, p2⟩ := leave r' p
      exact k W' H' .non r2 p2 (by simp only [Res, Fz])
    | some (.exc x, e', M'), k =>
      intro W' H' σ' cls dx r' p q
      obtain ⟨r2, p2⟩ := leave r' p
      exact k W' H' cls dx r2 p2 q
    | some (.rt own d, e', M'), k =>
      intro W' H' σ' v r' p q
      obtain ⟨r2, p2⟩ := leave r' p
      refine k W' H' v r2 p2 ?_
      cases own with
      | false => exact q
      | true =>
        obtain ⟨a, e1, e2, e3, e4, e5, _⟩ := q
        exact ⟨a, e1, e2, .inl (e3.resolve_right own_init), e4, e5, own_nil⟩
  · exact k.elim
/-- a def of the text keeps what its body's run tells -/
theorem fn_ok {mg : Str → Option Value} {base : Heap} {x qual : Str} {params : Arguments} {body : List Stmt} {scope : Scope} {fd : FuncData} {N ps : List Str} {k : Nat} {fad : Addr} {sm : SmS} (F : FunD S.K x qual params body scope [] [] fad fd) (Sc : FnScope N ps scope)
    (hb : ∀ (cdv : Value) (A : Around) (outer : List Env) (s : Shared) (H : Hp) (E : XK), Room k (A.deeper (envOfC qual scope s.heap.objs.size fad cdv)) → PSs (cxOf (CX S.P S.w) S.P S.w S.K mg base N qual scope fad cdv A outer s H E) body (TSf S E sm)) :
    FnOk S.P S.w S.K mg base (CX S.P S.w) (k + 1) fad fd ps (spF S ps.length (runB ps.length N.length sm)) := by
  refine F.ok Sc (fun vs H Q E h => h.1) fun cdv A outer s H vs Q E hr ⟨_, W, ds, M, r, l, kk⟩ => ⟨TSf S E sm, hb cdv A outer s H E hr, W, _, M, r.enter l, KS.body r kk⟩
end
end EV

/-! EvF: ==, in, over data; lengths, subscripts, sums of tuples and lists. -/
namespace EV
open PySem PySem.Spec PyProof.Rows L2

/-! ### data as the library's plain data -/
mutual
def toPy : D → PyData
  | .non => .none
  | .bl b => .bool b
  | .int i => .int i
  | .str x => .str x
  | .tup xs => .tuple (toPyL xs)
  | .lst xs => .list (toPyL xs)
  | .dct _ _ => .dict []
  | .fn _ => .dict []
  | .rf _ => .dict []
  | .scr => .dict []
  | .exn => .dict []
def toPyL : List D → List PyData
  | [] => []
  | d :: ds => toPy d :: toPyL ds
end
mutual
/-- None, bools, ints, texts, tuples and lists of these -/
def plain : D → Bool
  | .non => true
  | .bl _ => true
  | .int _ => true
  | .str x => PyData.strOk x
  | .tup xs => plainL xs
  | .lst xs => plainL xs
  | .dct _ _ => false
  | .fn _ => false
  | .rf _ => false
  | .scr => false
  | .exn => false
def plainL : List D → Bool
  | [] => true
  | d :: ds => plain d && plainL ds
end
mutual
def depthD : D → Nat
  | .tup xs => depthL xs + 1
  | .lst xs => depthL xs + 1
  | .dct _ _ => 1
  | .fn _ => 1
  | .rf _ => 1
  | .scr => 1
  | .exn => 1
  | .non => 0
  | .bl _ => 0
  | .int _ => 0
  | .str _ => 0
def depthL : List D → Nat
  | [] => 0
  | d :: ds => max (depthD d) (depthL ds)
end
mutual
/-- Python's == of such data -/
def beqD : D → D → Bool
  | .non, .non => true
  | .bl a, .bl b => a == b
  | .bl a, .int j => (if a then 1 else 0) == j
  | .int i, .bl b => i == (if b then 1 else 0)
  | .int i, .int j => i == j
  | .str x, .str y => x == y
  | .tup xs, .tup ys => beqL xs ys
  | .lst xs, .lst ys => beqL xs ys
  | _, _ => false
def beqL : List D → List D → Bool
  | [], [] => true
  | x :: xs, y :: ys => beqD x y && beqL xs ys
  | _, _ => false
end
mutual
theorem toPy_lay : ∀ d : D, plain d = true → (toPy d).canLay0 = true
  | .non, _ => rfl
  | .bl _, _ => rfl
  | .int _, _ => rfl
  | .str x, h => by simp only [plain] at h; simp only [toPy, PyData.canLay0]; exact h
  | .tup xs, h => by simp only [plain] at h; simp only [toPy, PyData.canLay0]; exact toPyL_lay xs h
  | .lst xs, h => by simp only [plain] at h; simp only [toPy, PyData.canLay0]; exact toPyL_lay xs h
  | .dct _ _, h => by simp only [plain] at h; cases h
  | .fn _, h => by simp only [plain] at h; cases h
  | .rf _, h => by simp only [plain] at h; cases h
  | .scr, h => by simp only [plain] at h; cases h
  | .exn, h => by simp only [plain] at h; cases h
theorem toPyL_lay : ∀ ds : List D, plainL ds = true → PyData.canLayAll0 (toPyL ds) = true
  | [], _ => rfl
  | d :: ds, h => by
    simp only [plainL, Bool.and_eq_true] at h
    simp only [toPyL, PyData.canLayAll0, Bool.and_eq_true]
    exact ⟨toPy_lay d h.1, toPyL_lay ds h.2⟩
end
mutual
theorem toPy_depth : ∀ d : D, plain d = true → (toPy d).depth = depthD d
  | .non, _ => rfl
  | .bl _, _ => rfl
  | .int _, _ => rfl
  | .str x, h => by simp only [toPy, PyData.depth, depthD]
  | .tup xs, h => by simp only [plain] at h; simp only [toPy, PyData.depth, depthD]; rw [toPyL_depth xs h]
  | .lst xs, h => by simp only [plain] at h; simp only [toPy, PyData.depth, depthD]; rw [toPyL_depth xs h]
  | .dct _ _, h => by simp only [plain] at h; cases h
  | .fn _, h => by simp only [plain] at h; cases h
  | .rf _, h => by simp only [plain] at h; cases h
  | .scr, h => by simp only [plain] at h; cases h
  | .exn, h => by simp only [plain] at h; cases h
theorem toPyL_depth : ∀ ds : List D, plainL ds = true → PyData.depthAll (toPyL ds) = depthL ds
  | [], _ => rfl
  | d :: ds, h => by
    simp only [plainL, Bool.and_eq_true] at h
    simp only [toPyL, PyData.depthAll, depthL]
    rw [toPy_depth d h.1, toPyL_depth ds h.2]
end
mutual
theorem toPy_beq : ∀ d d' : D, plain d = true → plain d' = true → PyData.eqv (toPy d) (toPy d') = beqD d d'
  | .non, d', h, h' => by cases d' <;> simp only [plain] at h' <;> first | (cases h'; done) | simp only [toPy, PyData.eqv, beqD]
  | .bl _, d', h, h' => by cases d' <;> simp only [plain] at h' <;> first | (cases h'; done) | simp only [toPy, PyData.eqv, beqD]
  | .int _, d', h, h' => by cases d' <;> simp only [plain] at h' <;> first | (cases h'; done) | simp only [toPy, PyData.eqv, beqD]
  | .str x, d', h, h' => by cases d' <;> simp only [plain] at h' <;> first | (cases h'; done) | simp only [toPy, PyData.eqv, beqD]
  | .tup xs, d', h, h' => by
    simp only [plain] at h
    cases d' with
    | tup ys => simp only [plain] at h'; simp only [toPy, PyData.eqv, beqD]; exact toPyL_beq xs ys h h'
    | _ => simp only [plain] at h' <;> first | (cases h'; done) | simp only [toPy, PyData.eqv, beqD]
  | .lst xs, d', h, h' => by
    simp only [plain] at h
    cases d' with
    | lst ys => simp only [plain] at h'; simp only [toPy, PyData.eqv, beqD]; exact toPyL_beq xs ys h h'
    | _ => simp only [plain] at h' <;> first | (cases h'; done) | simp only [toPy, PyData.eqv, beqD]
  | .dct _ _, _, h, _ => by simp only [plain] at h; cases h
  | .fn _, _, h, _ => by simp only [plain] at h; cases h
  | .rf _, _, h, _ => by simp only [plain] at h; cases h
  | .scr, _, h, _ => by simp only [plain] at h; cases h
  | .exn, _, h, _ => by simp only [plain] at h; cases h
theorem toPyL_beq : ∀ ds es : List D, plainL ds = true → plainL es = true → PyData.eqvAll (toPyL ds) (toPyL es) = beqL ds es
  | [], [], _, _ => rfl
  | [], _ :: _, _, _ => rfl
  | _ :: _, [], _, _ => rfl
  | d :: ds, d' :: es, h, h' => by
    simp only [plainL, Bool.and_eq_true] at h h'
    simp only [toPyL, PyData.eqvAll, beqL]
    rw [toPy_beq d d' h.1 h'.1, toPyL_beq ds es h.2 h'.2]
end
section
variable {S : Sg} {W : Wd} {H : Hp}
mutual
theorem Fz.dp : ∀ {d : D} {v : V}, plain d = true → Fz S W H d v → Dp S.K H v (toPy d)
  | .non, v, _, h => by simp only [Fz] at h; subst h; exact .non
  | .bl b, v, _, h => by simp only [Fz] at h; subst h; exact .bl b
  | .int i, v, _, h => by simp only [Fz] at h; subst h; exact .int i
  | .str x, v, _, h => by simp only [Fz] at h; subst h; exact .str x
  | .tup xs, v, p, h => by
    simp only [plain] at p
    simp only [Fz] at h
    obtain ⟨a, vs, rfl, t, l⟩ := h
    exact .tup t.sq (FzL.dp p l)
  | .lst xs, v, p, h => by
    simp only [plain] at p
    simp only [Fz] at h
    obtain ⟨a, vs, rfl, t, l⟩ := h
    exact .lst t.sq (FzL.dp p l)
  | .dct _ _, _, p, _ => by simp only [plain] at p; cases p
  | .fn _, _, p, _ => by simp only [plain] at p; cases p
  | .rf _, _, p, _ => by simp only [plain] at p; cases p
  | .scr, _, p, _ => by simp only [plain] at p; cases p
  | .exn, _, p, _ => by simp only [plain] at p; cases p
theorem FzL.dp : ∀ {ds : List D} {vs : List V}, plainL ds = true → FzL S W H ds vs → DpAll S.K H vs (toPyL ds)
  | [], vs, _, h => by simp only [FzL] at h; subst h; exact .nil
  | d :: ds, vs, p, h => by
    simp only [plainL, Bool.and_eq_true] at p
    simp only [FzL] at h
    obtain ⟨v, r, rfl, h1, h2⟩ := h
    exact .cons (Fz.dp p.1 h1) (FzL.dp p.2 h2)
end
theorem Rb.dp {d : D} {v : V} (p : plain d = true) (h : Rb S W H d v) : Dp S.K H v (toPy d) := by
  rcases h with h | ⟨a, rfl, h⟩
  · exact h.dp p
  · cases d with
    | lst xs =>
      simp only [plain] at p
      obtain ⟨vs, e, l⟩ := h
      exact .lst (SqL.of e) (l.dp p)
    | dct ks vs => simp only [plain] at p; cases p
    | _ => exact h.elim
end

/-! ### == and != -/
def rEqF (K : PySem.W.Frag) (neg : Bool) : R2 := fun x y H Q => ∃ d e, Dp K H x d ∧ Dp K H y e ∧ d.canLay0 = true ∧ e.canLay0 = true ∧ min d.depth e.depth ≤ 150 ∧ Q (.bl (if neg = true then !PyData.eqv d e else PyData.eqv d e)) H
section
variable {X : Cx}
theorem op_eqF (hu : X.A.units + 200 < cLine) : OpR X (compareOp .Eq) (rEqF X.K false) := by
  intro pins s σ H x y v u Q I rx ry ⟨d, e, hd, he, sd, se, hm, q⟩
  obtain ⟨as, r1⟩ := Dp.reads I d x v hd rx
  obtain ⟨bs, r2⟩ := Dp.reads I e y u he ry
  exact SeqAt.compareEq_reads r1 r2 sd se (by omega) ⟨.bl _, H, I, rfl, q⟩
theorem op_neF (hu : X.A.units + 200 < cLine) : OpR X (compareOp .NotEq) (rEqF X.K true) := by
  intro pins s σ H x y v u Q I rx ry ⟨d, e, hd, he, sd, se, hm, q⟩
  obtain ⟨as, r1⟩ := Dp.reads I d x v hd rx
  obtain ⟨bs, r2⟩ := Dp.reads I e y u he ry
  exact SeqAt.compareNe_reads r1 r2 sd se (by omega) ⟨.bl _, H, I, rfl, q⟩
end
def eqOk (d e : D) : Bool := plain d && plain e && (decide (depthD d ≤ 150) || decide (depthD e ≤ 150))
def pEq (d e : D) : Option (Bool × D) := if eqOk d e = true then some (false, .bl (beqD d e)) else none
def pNe (d e : D) : Option (Bool × D) := if eqOk d e = true then some (false, .bl (!beqD d e)) else none
theorem Gv.now {S : Sg} {W : Wd} {e : Env'} {σ : L2.St} {H : Hp} {M : Sto} {d : D} {v : V} {Q : VK} (g : Gv S W e σ H M false d Q) (r : Rel S W σ H e M) (h : Fz S W H d v) : Q v H := g W H v r Post.refl h
theorem eqOk_of {d e : D} (h : eqOk d e = true) : plain d = true ∧ plain e = true ∧ min (toPy d).depth (toPy e).depth ≤ 150 := by
  simp only [eqOk, Bool.and_eq_true, Bool.or_eq_true, decide_eq_true_eq] at h
  refine ⟨h.1.1, h.1.2, ?_⟩
  rw [toPy_depth d h.1.1, toPy_depth e h.1.2]
  omega
section
variable {S : Sg}
theorem pr_eq {K : PySem.W.Frag} (hK : K = S.K) : Pr2 S (rEqF K false) pEq := by
  intro W σ H e M d1 d2 v1 v2 own d Q r h1 h2 hp g
  unfold pEq at hp
  split at hp
  · rename_i h
    cases hp
    obtain ⟨p1, p2, hm⟩ := eqOk_of h
    subst hK
    exact ⟨_, _, h1.dp p1, h2.dp p2, toPy_lay _ p1, toPy_lay _ p2, hm, g.now r (by simp [Fz, toPy_beq _ _ p1 p2])⟩
  · cases hp
theorem pr_ne {K : PySem.W.Frag} (hK : K = S.K) : Pr2 S (rEqF K true) pNe := by
  intro W σ H e M d1 d2 v1 v2 own d Q r h1 h2 hp g
  unfold pNe at hp
  split at hp
  · rename_i h
    cases hp
    obtain ⟨p1, p2, hm⟩ := eqOk_of h
    subst hK
    exact ⟨_, _, h1.dp p1, h2.dp p2, toPy_lay _ p1, toPy_lay _ p2, hm, g.now r (by simp [Fz, toPy_beq _ _ p1 p2])⟩
  · cases hp
end
end EV

/-! EvG: arithmetic, comparisons, +, *, in, subscripts, slices. -/
namespace EV
open PySem PySem.Spec PyProof.Rows L2

section
variable {S : Sg} {W : Wd} {H : Hp} {v : V}
theorem Rb.int {i : Int} (h : Rb S W H (.int i) v) : v = .int i := by
  rcases h with h | ⟨a, _, h⟩
  · simpa only [Fz] using h
  · exact h.elim
theorem Rb.bl {i : Bool} (h : Rb S W H (.bl i) v) : v = .bl i := by
  rcases h with h | ⟨a, _, h⟩
  · simpa only [Fz] using h
  · exact h.elim
theorem Rb.str {i : Str} (h : Rb S W H (.str i) v) : v = .str i := by
  rcases h with h | ⟨a, _, h⟩
  · simpa only [Fz] using h
  · exact h.elim
theorem Rb.non (h : Rb S W H .non v) : v = .non := by
  rcases h with h | ⟨a, _, h⟩
  · simpa only [Fz] using h
  · exact h.elim
theorem Rb.tup {xs : List D} (h : Rb S W H (.tup xs) v) : ∃ a vs, v = .ref a ∧ SqT S.K H a vs ∧ FzL S W H xs vs ∧ Fz S W H (.tup xs) (.ref a) := by
  rcases h with h | ⟨a, _, h⟩
  · have h0 := h
    simp only [Fz] at h
    obtain ⟨a, vs, rfl, t, l⟩ := h
    exact ⟨a, vs, rfl, t.sq, l, h0⟩
  · exact h.elim
theorem Rb.lst {xs : List D} (h : Rb S W H (.lst xs) v) : ∃ a vs, v = .ref a ∧ H a = some (.lst vs) ∧ FzL S W H xs vs := by
  rcases h with h | ⟨a, e, h⟩
  · simp only [Fz] at h
    obtain ⟨a, vs, rfl, t, l⟩ := h
    exact ⟨a, vs, rfl, t.2, l⟩
  · obtain ⟨vs, e2, l⟩ := h
    exact ⟨a, vs, e, e2, l⟩
theorem Rb.scr (h : Rb S W H .scr v) : v = .ref S.sa ∧ SqL S.K H S.sa (S.ns.map V.int) := by
  rcases h with h | ⟨a, _, h⟩
  · simp only [Fz] at h
    refine ⟨h.1, ?_⟩
    rcases h.2 with h | h
    · exact .inl h.2
    · exact SqL.of0 h
  · exact h.elim
end

/-! ### numbers -/
def small30 (j : Int) : Bool := decide (j.natAbs < 1073741824)
def in64 (j : Int) : Bool := decide (-(2 ^ 64) < j) && decide (j < 2 ^ 64)
def pSub : D → D → Option (Bool × D)
  | .int i, .int j => some (false, .int (i - j))
  | _, _ => none
def pDiv : D → D → Option (Bool × D)
  | .int i, .int j => if (decide (j ≠ 0) && small30 j) = true then some (false, .int (i.fdiv j)) else none
  | _, _ => none
def pMod : D → D → Option (Bool × D)
  | .int i, .int j => if decide (j ≠ 0) = true then some (false, .int (i.fmod j)) else none
  | _, _ => none
def pPow : D → D → Option (Bool × D)
  | .int i, .int j => if (decide (0 ≤ j) && decide (j ≤ 1000000) && decide (i.natAbs < 2 ^ 64)) = true then some (false, .int (i ^ j.toNat)) else none
  | _, _ => none
def pLt : D → D → Option (Bool × D)
  | .int i, .int j => some (false, .bl (decide (i < j)))
  | _, _ => none
def pLe : D → D → Option (Bool × D)
  | .int i, .int j => some (false, .bl (decide (i ≤ j)))
  | _, _ => none
def pGt : D → D → Option (Bool × D)
  | .int i, .int j => some (false, .bl (decide (j < i)))
  | _, _ => none
def pGe : D → D → Option (Bool × D)
  | .int i, .int j => some (false, .bl (decide (j ≤ i)))
  | _, _ => none
section
variable {S : Sg}
theorem pr_sub : Pr2 S (rI0 fun i j => .int (i - j)) pSub := by
  intro W σ H e M d1 d2 v1 v2 own d Q r h1 h2 hp g
  unfold pSub at hp
  split at hp
  · cases hp; exact ⟨_, _, h1.int, h2.int, g.now r (by simp only [Fz])⟩
  · cases hp
theorem pr_lt : Pr2 S (rI0 fun i j => .bl (decide (i < j))) pLt := by
  intro W σ H e M d1 d2 v1 v2 own d Q r h1 h2 hp g
  unfold pLt at hp
  split at hp
  · cases hp; exact ⟨_, _, h1.int, h2.int, g.now r (by simp only [Fz])⟩
  · cases hp
theorem pr_le : Pr2 S (rI0 fun i j => .bl (decide (i ≤ j))) pLe := by
  intro W σ H e M d1 d2 v1 v2 own d Q r h1 h2 hp g
  unfold pLe at hp
  split at hp
  · cases hp; exact ⟨_, _, h1.int, h2.int, g.now r (by simp only [Fz])⟩
  · cases hp
theorem pr_gt : Pr2 S (rI0 fun i j => .bl (decide (j < i))) pGt := by
  intro W σ H e M d1 d2 v1 v2 own d Q r h1 h2 hp g
  unfold pGt at hp
  split at hp
  · cases hp; exact ⟨_, _, h1.int, h2.int, g.now r (by simp only [Fz])⟩
  · cases hp
theorem pr_ge : Pr2 S (rI0 fun i j => .bl (decide (j ≤ i))) pGe := by
  intro W σ H e M d1 d2 v1 v2 own d Q r h1 h2 hp g
  unfold pGe at hp
  split at hp
  · cases hp; exact ⟨_, _, h1.int, h2.int, g.now r (by simp only [Fz])⟩
  · cases hp
theorem pr_div : Pr2 S (rI CDivN fun i j => .int (i.fdiv j)) pDiv := by
  intro W σ H e M d1 d2 v1 v2 own d Q r h1 h2 hp g
  unfold pDiv at hp
  split at hp
  · split at hp
    · rename_i hc
      cases hp
      simp only [small30, Bool.and_eq_true, decide_eq_true_eq] at hc
      exact ⟨_, _, h1.int, h2.int, hc, g.now r (by simp only [Fz])⟩
    · cases hp
  · cases hp
theorem pr_mod : Pr2 S (rI (fun _ j => j ≠ 0) fun i j => .int (i.fmod j)) pMod := by
  intro W σ H e M d1 d2 v1 v2 own d Q r h1 h2 hp g
  unfold pMod at hp
  split at hp
  · split at hp
    · rename_i hc
      cases hp
      exact ⟨_, _, h1.int, h2.int, of_decide_eq_true hc, g.now r (by simp only [Fz])⟩
    · cases hp
  · cases hp
theorem pr_pow : Pr2 S (rI CPow fun i j => .int (i ^ j.toNat)) pPow := by
  intro W σ H e M d1 d2 v1 v2 own d Q r h1 h2 hp g
  unfold pPow at hp
  split at hp
  · split at hp
    · rename_i hc
      cases hp
      simp only [Bool.and_eq_true, decide_eq_true_eq] at hc
      exact ⟨_, _, h1.int, h2.int, ⟨hc.1.1, hc.1.2, hc.2⟩, g.now r (by simp only [Fz])⟩
    · cases hp
  · cases hp
end

/-! ### +, * -/
def tx (x : Str) : List Nat := x.cps.toList
def mkS (l : List Nat) : Str := ⟨l.toArray⟩
def szOk (n : Nat) : Bool := Nat.ble n sizeLine
theorem szOk_of {n : Nat} (h : szOk n = true) : n ≤ sizeLine := Nat.le_of_ble_eq_true h
def pAdd : D → D → Option (Bool × D)
  | .int i, .int j => some (false, .int (i + j))
  | .int i, .bl k => some (false, .int (i + b2i k))
  | .str x, .str y => if szOk ((tx x).length + (tx y).length) = true then some (false, .str (mkS (tx x ++ tx y))) else none
  | .lst xs, .lst ys => if szOk (xs.length + ys.length) = true then some (true, .lst (xs ++ ys)) else none
  | .tup xs, .tup ys => if szOk (xs.length + ys.length) = true then some (false, .tup (xs ++ ys)) else none
  | _, _ => none
def rAddF (K : PySem.W.Frag) : R2 := fun x y H Q => rI0 (fun i j => .int (i + j)) x y H Q ∨ (∃ i k, x = .int i ∧ y = .bl k ∧ Q (.int (i + b2i k)) H) ∨
  (∃ i j, x = .str i ∧ y = .str j ∧ i.length + j.length ≤ sizeLine ∧ Q (.str (i ++ j)) H) ∨ rCat x y H Q ∨ rCatA K x y H Q
theorem op_addF {X : Cx} : OpR X (binaryOp .Add) (rAddF X.K) := OpR.or op_add (OpR.or op_add_ib (OpR.or op_add_str (OpR.or op_cat op_catA)))
theorem str_ext {x y : Str} (h : x.cps.toList = y.cps.toList) : x = y := by
  cases x; cases y; simp only [Str.mk.injEq]; exact Array.toList_inj.mp h
theorem mkS_app {x y : Str} : mkS (tx x ++ tx y) = x ++ y := str_ext (by show tx x ++ tx y = (x.cps ++ y.cps).toList; simp [tx])
section
variable {S : Sg}
theorem Gv.tup {W : Wd} {σ : L2.St} {H : Hp} {e : Env'} {M : Sto} {ds : List D} {vs : List V} {Q : VK} (g : Gv S W e σ H M false (.tup ds) Q) (r : Rel S W σ H e M) (l : FzL S W H ds vs) : ∀ p, H p = none → Q (.ref p) (upd H p (.tup vs)) := fun p h => new_tup r l g h
theorem Gv.lst {W : Wd} {σ : L2.St} {H : Hp} {e : Env'} {M : Sto} {ds : List D} {vs : List V} {Q : VK} (g : Gv S W e σ H M true (.lst ds) Q) (r : Rel S W σ H e M) (l : FzL S W H ds vs) : ∀ p, H p = none → Q (.ref p) (upd H p (.lst vs)) := fun p h => new_lst r l g h
theorem pr_add {K : PySem.W.Frag} (hK : K = S.K) : Pr2 S (rAddF K) pAdd := by
  intro W σ H e M d1 d2 v1 v2 own d Q r h1 h2 hp g
  subst hK
  unfold pAdd at hp
  split at hp
  · cases hp; exact .inl ⟨_, _, h1.int, h2.int, g.now r (by simp only [Fz])⟩
  · cases hp; exact .inr (.inl ⟨_, _, h1.int, h2.bl, g.now r (by simp only [Fz])⟩)
  · split at hp
    · rename_i x y hc
      cases hp
      have hc := szOk_of hc
      refine .inr (.inr (.inl ⟨_, _, h1.str, h2.str, by simpa [Str.length, tx] using hc, g.now r (by simp only [Fz]; rw [mkS_app])⟩))
    · cases hp
  · split at hp
    · rename_i xs ys hc
      cases hp
      obtain ⟨a, vs, rfl, ha, la⟩ := h1.lst
      obtain ⟨b, us, rfl, hb, lb⟩ := h2.lst
      exact .inr (.inr (.inr (.inl ⟨a, b, vs, us, rfl, rfl, ha, hb, by rw [← la.length, ← lb.length]; exact szOk_of hc, g.lst r (la.append lb)⟩)))
    · cases hp
  · split at hp
    · rename_i xs ys hc
      cases hp
      obtain ⟨a, vs, rfl, ha, la, fa⟩ := h1.tup
      obtain ⟨b, us, rfl, hb, lb, fb⟩ := h2.tup
      refine .inr (.inr (.inr (.inr ⟨a, b, vs, us, rfl, rfl, ha, hb, by rw [← la.length, ← lb.length]; exact szOk_of hc, fun h => ?_, fun h h' => ?_, fun _ _ => g.tup r (la.append lb)⟩)))
      · have : xs = [] := List.eq_nil_of_length_eq_zero (by rw [la.length, h]; rfl)
        subst this
        exact g.now r fb
      · have : ys = [] := List.eq_nil_of_length_eq_zero (by rw [lb.length, h']; rfl)
        subst this
        rw [List.append_nil] at g
        exact g.now r fa
    · cases hp
  · cases hp
end
def rMulS : R2 := fun x y H Q => ∃ (z : Str) (k : Int), x = .str z ∧ y = .int k ∧ 2 ≤ k ∧ k ≤ 100000 ∧ 0 < z.length ∧ z.length * k.toNat ≤ sizeLine ∧ Q (.str (mkS (List.replicate k.toNat (tx z)).flatten)) H
theorem foldl_rep (a : Array Nat) : ∀ (n : Nat) (b : Array Nat), ((List.replicate n a).foldl (· ++ ·) b).toList = b.toList ++ (List.replicate n a.toList).flatten
  | 0, b => by simp
  | n + 1, b => by
    rw [List.replicate_succ, List.foldl_cons, foldl_rep a n (b ++ a), List.replicate_succ, List.flatten_cons]
    simp
theorem op_mulS {X : Cx} : OpR X (binaryOp .Mult) rMulS := by
  intro pins s σ H x y v u Q I rx ry ⟨z, k, e1, e2, k2, kb, z0, zl, q⟩
  subst e1 e2
  obtain ⟨t, rfl⟩ := rx
  obtain ⟨t', rfl⟩ := ry
  have hs := sizeLine_eq
  have h1 : ¬ k < 1 := by omega
  have h2 : (k == 1 || z.length == 0) = false := by
    rw [Bool.or_eq_false_iff]
    exact ⟨by simp; omega, by simp; omega⟩
  have hz : z.length ≤ z.length * k.toNat := Nat.le_mul_of_pos_right _ (by omega)
  refine PySem.P.mul_str (by
      rw [decide_eq_false (by omega), decide_eq_false (by omega)]; rfl) (fun _ _ => ?_) (fun _ _ => ?_) ?_
  · have : (z.length : Int) ≤ 16777216 := by omega
    have h3 : (92233720368547 : Int) ≤ (2 ^ 63 - 1) / k := by
      refine Int.le_ediv_of_mul_le (by omega) ?_
      omega
    omega
  · show decide (z.length * k.toNat > sizeLine) = false
    exact decide_eq_false (by omega)
  · rw [if_neg h1, h2]
    have ex : (⟨(List.replicate k.toNat z.cps).foldl (· ++ ·) #[]⟩ : Str) = mkS (List.replicate k.toNat (tx z)).flatten := str_ext (by
      show ((List.replicate k.toNat z.cps).foldl (· ++ ·) #[]).toList = (mkS _).cps.toList
      rw [foldl_rep]
      simp [mkS, tx])
    refine ⟨?_, ?_⟩
    · rw [ex]
      have : (mkS (List.replicate k.toNat (tx z)).flatten).length = z.length * k.toNat := by
        show (mkS _).cps.size = _
        have e1 : z.length = (tx z).length := by simp [Str.length, tx]
        rw [e1]
        simp [mkS, List.length_flatten, List.map_replicate, List.sum_replicate_nat, Nat.mul_comm]
      rw [this]
      exact zl
    · exact ⟨.str (mkS (List.replicate k.toNat (tx z)).flatten), H, I.tok _, ⟨_, by rw [ex]⟩, q⟩
def pMul : D → D → Option (Bool × D)
  | .int i, .int j => if (in64 i || in64 j) = true then some (false, .int (i * j)) else none
  | .tup xs, .int k => if (decide (xs ≠ []) && decide (2 ≤ k) && decide (k ≤ 1000) && decide (xs.length ≤ 1000)) = true then some (false, .tup (List.replicate k.toNat xs).flatten) else none
  | .str x, .int k => if (decide (2 ≤ k) && decide (k ≤ 100000) && Nat.blt 0 (tx x).length && szOk ((tx x).length * k.toNat)) = true then some (false, .str (mkS (List.replicate k.toNat (tx x)).flatten)) else none
  | .lst xs, .int k => if (decide (-(2 ^ 63) ≤ k) && decide (k < 2 ^ 63) && szOk (xs.length * k.toNat)) = true then some (true, .lst (List.replicate k.toNat xs).flatten) else none
  | _, _ => none
def rMulF (K : PySem.W.Frag) : R2 := fun x y H Q => rI CMul (fun i j => .int (i * j)) x y H Q ∨ rRepT K x y H Q ∨ rRep x y H Q ∨ rMulS x y H Q
theorem op_mulF {X : Cx} : OpR X (binaryOp .Mult) (rMulF X.K) := OpR.or op_mul (OpR.or op_repT (OpR.or op_rep op_mulS))
theorem FzL.rep {S : Sg} {W : Wd} {H : Hp} {xs : List D} {vs : List V} (l : FzL S W H xs vs) : ∀ n : Nat, FzL S W H (List.replicate n xs).flatten (List.replicate n vs).flatten
  | 0 => FzL.nil
  | n + 1 => by
    rw [List.replicate_succ, List.replicate_succ, List.flatten_cons, List.flatten_cons]
    exact l.append (FzL.rep l n)
theorem pr_mul {S : Sg} {K : PySem.W.Frag} (hK : K = S.K) : Pr2 S (rMulF K) pMul := by
  intro W σ H e M d1 d2 v1 v2 own d Q r h1 h2 hp g
  subst hK
  unfold pMul at hp
  split at hp
  · split at hp
    · rename_i hc
      cases hp
      refine .inl ⟨_, _, h1.int, h2.int, ?_, g.now r (by simp only [Fz])⟩
      simp only [in64, Bool.or_eq_true, Bool.and_eq_true, decide_eq_true_eq] at hc
      exact hc
    · cases hp
  · split at hp
    · rename_i xs k hc
      cases hp
      simp only [Bool.and_eq_true, decide_eq_true_eq] at hc
      obtain ⟨a, vs, rfl, ha, la, _⟩ := h1.tup
      refine .inr (.inl ⟨a, k, vs, rfl, h2.int, ha, fun z => hc.1.1.1 (List.eq_nil_of_length_eq_zero (by rw [la.length, z]; rfl)), hc.1.1.2, hc.1.2, by rw [← la.length]; exact hc.2, g.tup r (la.rep _)⟩)
    · cases hp
  · split at hp
    · rename_i x k hc
      cases hp
      simp only [Bool.and_eq_true, decide_eq_true_eq] at hc
      have e1 : x.length = (tx x).length := by simp [Str.length, tx]
      exact .inr (.inr (.inr ⟨x, k, h1.str, h2.int, hc.1.1.1, hc.1.1.2, by rw [e1]; exact Nat.le_of_ble_eq_true hc.1.2, by rw [e1]; exact szOk_of hc.2, g.now r (by simp only [Fz])⟩))
    · cases hp
  · split at hp
    · rename_i xs k hc
      cases hp
      simp only [Bool.and_eq_true, decide_eq_true_eq] at hc
      obtain ⟨a, vs, rfl, ha, la⟩ := h1.lst
      exact .inr (.inr (.inl ⟨a, k, vs, rfl, h2.int, ha, hc.1.1, hc.1.2, by rw [← la.length]; exact szOk_of hc.2, g.lst r (la.rep _)⟩))
    · cases hp
  · cases hp

/-! ### is None, in -/
def pIs : D → D → Option (Bool × D)
  | .non, .non => some (false, .bl true)
  | _, .non => some (false, .bl false)
  | _, _ => none
def pIsN : D → D → Option (Bool × D)
  | .non, .non => some (false, .bl false)
  | _, .non => some (false, .bl true)
  | _, _ => none
theorem Rb.isN {S : Sg} {W : Wd} {H : Hp} {v : V} {d : D} (h : Rb S W H d v) (hd : d ≠ .non) : v ≠ .non := by
  intro z
  subst z
  rcases h with h | ⟨a, z, _⟩
  · cases d with
    | non => exact hd rfl
    | bl _ => simp only [Fz] at h; cases h
    | int _ => simp only [Fz] at h; cases h
    | str _ => simp only [Fz] at h; cases h
    | tup _ => simp only [Fz] at h; obtain ⟨a, vs, z, _⟩ := h; cases z
    | lst _ => simp only [Fz] at h; obtain ⟨a, vs, z, _⟩ := h; cases z
    | dct _ _ => simp only [Fz] at h; obtain ⟨a, vs, z, _⟩ := h; cases z
    | fn _ => simp only [Fz] at h; obtain ⟨a, _, z⟩ := h; cases z
    | rf _ => simp only [Fz] at h; obtain ⟨a, _, z⟩ := h; cases z
    | scr => simp only [Fz] at h; cases h.1
    | exn => simp only [Fz] at h; obtain ⟨p, _, z, _⟩ := h; cases z
  · cases z
theorem pr_is {S : Sg} : Pr2 S (fun x y H Q => y = .non ∧ Q (.bl (decide (x = .non))) H) pIs := by
  intro W σ H e M d1 d2 v1 v2 own d Q r h1 h2 hp g
  unfold pIs at hp
  split at hp
  · cases hp; exact ⟨h2.non, g.now r (by simp [Fz, h1.non])⟩
  · rename_i hn
    cases hp
    have : v1 ≠ .non := h1.isN hn
    exact ⟨h2.non, g.now r (by simp [Fz, this])⟩
  · cases hp
theorem pr_isN {S : Sg} : Pr2 S (fun x y H Q => y = .non ∧ Q (.bl (!decide (x = .non))) H) pIsN := by
  intro W σ H e M d1 d2 v1 v2 own d Q r h1 h2 hp g
  unfold pIsN at hp
  split at hp
  · cases hp; exact ⟨h2.non, g.now r (by simp [Fz, h1.non])⟩
  · rename_i hn
    cases hp
    have : v1 ≠ .non := h1.isN hn
    exact ⟨h2.non, g.now r (by simp [Fz, this])⟩
  · cases hp
end EV

/-! EvH: in, subscripts, slices, negation. -/
namespace EV
open PySem PySem.Spec PyProof.Rows L2

/-! ### in -/
/-- sub stands somewhere in l -/
def subL (sub : List Nat) : List Nat → Bool
  | [] => sub.isEmpty
  | c :: r => (List.take sub.length (c :: r) == sub) || subL sub r
theorem subL_iff (sub : List Nat) : ∀ l : List Nat, subL sub l = true ↔ ∃ i, i + sub.length ≤ l.length ∧ (l.drop i).take sub.length = sub
  | [] => by
    constructor
    · intro h
      have : sub = [] := by simpa [subL] using h
      subst this
      exact ⟨0, by simp, rfl⟩
    · rintro ⟨i, h, _⟩
      have : sub = [] := List.eq_nil_of_length_eq_zero (by rw [List.length_nil] at h; omega)
      subst this
      rfl
  | c :: r => by
    simp only [subL, Bool.or_eq_true, beq_iff_eq, subL_iff sub r]
    constructor
    · rintro (h | ⟨i, h1, h2⟩)
      · refine ⟨0, ?_, h⟩
        have := congrArg List.length h
        rw [List.length_take] at this
        omega
      · exact ⟨i + 1, by rw [List.length_cons]; omega, by simpa using h2⟩
    · rintro ⟨i, h1, h2⟩
      cases i with
      | zero => exact .inl h2
      | succ i => exact .inr ⟨i, by rw [List.length_cons] at h1; omega, by simpa using h2⟩
theorem inStr_eq (x y : Str) : (!(Builtin.Str.occurrences y x 0 y.length 1).isEmpty) = subL (tx x) (tx y) := by
  rw [Bool.eq_iff_iff]
  rw [PySem.StrLaws.found_iff, subL_iff]
  simp only [PySem.StrLaws.subAt_eq, beq_iff_eq]
  have e1 : x.length = (tx x).length := by simp [Str.length, tx]
  have e2 : y.length = (tx y).length := by simp [Str.length, tx]
  rw [e1, e2]
  exact Iff.rfl
def inOk (d : D) (xs : List D) : Bool := plain d && plainL xs && (decide (depthL xs ≤ 150) || decide (depthD d ≤ 150))
def pIn (a b : D) : Option (Bool × D) := match b with
  | .tup xs => if inOk a xs = true then some (false, .bl (xs.any fun z => beqD z a)) else none
  | .lst xs => if inOk a xs = true then some (false, .bl (xs.any fun z => beqD z a)) else none
  | .str y => match a with
    | .str x => some (false, .bl (subL (tx x) (tx y)))
    | _ => none
  | _ => none
def negB : Option (Bool × D) → Option (Bool × D)
  | some (o, .bl b) => some (o, .bl (!b))
  | _ => none
def pNotIn (a b : D) : Option (Bool × D) := negB (pIn a b)
def rInF (K : PySem.W.Frag) (neg : Bool) : R2 := fun x y H Q => (∃ d ds, Dp K H x d ∧ (Dp K H y (.list ds) ∨ Dp K H y (.tuple ds)) ∧ d.canLay0 = true ∧ PyData.canLayAll0 ds = true ∧ min (PyData.depthAll ds) d.depth ≤ 150 ∧ Q (.bl (if neg = true then !(ds.any fun z => PyData.eqv z d) else (ds.any fun z => PyData.eqv z d))) H) ∨
  (∃ i j, x = .str i ∧ y = .str j ∧ Q (.bl (if neg = true then !(subL (tx i) (tx j)) else subL (tx i) (tx j))) H)
theorem op_inF {X : Cx} (hu : X.A.units + 200 < cLine) : OpR X (compareOp .In) (rInF X.K false) := by
  refine OpR.or ?_ ?_
  · intro pins s σ H x y v u Q I rx ry ⟨d, ds, hd, he, sd, se, hm, q⟩
    obtain ⟨as, r1⟩ := Dp.reads I d x v hd rx
    rcases he with he | he
    · obtain ⟨bs, r2⟩ := Dp.reads I _ y u he ry
      exact SeqAt.in_list_reads r2 r1 se sd (by omega) ⟨.bl _, H, I, rfl, q⟩
    · obtain ⟨bs, r2⟩ := Dp.reads I _ y u he ry
      exact SeqAt.in_tuple_reads r2 r1 se sd (by omega) ⟨.bl _, H, I, rfl, q⟩
  · intro pins s σ H x y v u Q I rx ry ⟨i, j, e1, e2, q⟩
    exact op_in_str pins s σ H x y v u Q I rx ry ⟨i, j, e1, e2, by rw [inStr_eq]; exact q⟩
theorem op_notInF {X : Cx} (hu : X.A.units + 200 < cLine) : OpR X (compareOp .NotIn) (rInF X.K true) := by
  refine OpR.or ?_ ?_
  · intro pins s σ H x y v u Q I rx ry ⟨d, ds, hd, he, sd, se, hm, q⟩
    obtain ⟨as, r1⟩ := Dp.reads I d x v hd rx
    rcases he with he | he
    · obtain ⟨bs, r2⟩ := Dp.reads I _ y u he ry
      exact SeqAt.notIn_list_reads r2 r1 se sd (by omega) ⟨.bl _, H, I, rfl, q⟩
    · obtain ⟨bs, r2⟩ := Dp.reads I _ y u he ry
      exact SeqAt.notIn_tuple_reads r2 r1 se sd (by omega) ⟨.bl _, H, I, rfl, q⟩
  · intro pins s σ H x y v u Q I rx ry ⟨i, j, e1, e2, q⟩
    exact op_notin_str pins s σ H x y v u Q I rx ry ⟨i, j, e1, e2, by rw [inStr_eq]; exact q⟩
theorem any_eq {d : D} (hp : plain d = true) : ∀ {xs : List D}, plainL xs = true → ((toPyL xs).any fun z => PyData.eqv z (toPy d)) = xs.any fun z => beqD z d
  | [], _ => rfl
  | x :: xs, h => by
    simp only [plainL, Bool.and_eq_true] at h
    simp only [toPyL, List.any_cons, toPy_beq x d h.1 hp, any_eq hp h.2]
theorem inOk_of {d : D} {xs : List D} (h : inOk d xs = true) : plain d = true ∧ plainL xs = true ∧ min (PyData.depthAll (toPyL xs)) (toPy d).depth ≤ 150 := by
  simp only [inOk, Bool.and_eq_true, Bool.or_eq_true, decide_eq_true_eq] at h
  refine ⟨h.1.1, h.1.2, ?_⟩
  rw [toPy_depth d h.1.1, toPyL_depth xs h.1.2]
  omega
theorem in_of {S : Sg} {neg : Bool} {W : Wd} {σ : L2.St} {H : Hp} {e : Env'} {M : Sto} {d1 d2 d : D} {v1 v2 : V} {own : Bool} {Q : VK} (r : Rel S W σ H e M) (h1 : Rb S W H d1 v1) (h2 : Rb S W H d2 v2)
    (hp : (if neg = true then pNotIn d1 d2 else pIn d1 d2) = some (own, d)) (g : Gv S W e σ H M own d Q) : rInF S.K neg v1 v2 H Q := by
  have hp' : ∃ b : Bool, pIn d1 d2 = some (false, .bl b) ∧ Q (.bl (if neg = true then !b else b)) H := by
    have nn : ∀ {o : Bool} {d0 : D}, pIn d1 d2 = some (o, d0) → o = false ∧ ∃ b, d0 = .bl b := fun {o d0} h => by
      unfold pIn at h
      split at h
      · split at h
        · cases h; exact ⟨rfl, _, rfl⟩
        · cases h
      · split at h
        · cases h; exact ⟨rfl, _, rfl⟩
        · cases h
      · split at h
        · cases h; exact ⟨rfl, _, rfl⟩
        · cases h
      · cases h
    cases hz : pIn d1 d2 with
    | none => cases neg <;> simp [pNotIn, hz, negB] at hp
    | some z =>
      obtain ⟨o, d0⟩ := z
      obtain ⟨rfl, b, rfl⟩ := nn hz
      refine ⟨b, rfl, ?_⟩
      cases neg with
      | false =>
        rw [if_neg Bool.false_ne_true, hz] at hp
        cases hp
        exact g.now r (by simp only [Fz]; rfl)
      | true =>
        rw [if_pos rfl, pNotIn, hz] at hp
        cases hp
        exact g.now r (by simp only [Fz]; rfl)
  clear hp
  obtain ⟨b, hp, q⟩ := hp'
  unfold pIn at hp
  split at hp
  · split at hp
    · rename_i xs hc
      cases hp
      obtain ⟨p1, p2, hm⟩ := inOk_of hc
      exact .inl ⟨_, toPyL xs, h1.dp p1, .inr (h2.dp (d := .tup xs) (by simp only [plain]; exact p2)), toPy_lay _ p1, toPyL_lay _ p2, hm, by rw [any_eq p1 p2]; exact q⟩
    · cases hp
  · split at hp
    · rename_i xs hc
      cases hp
      obtain ⟨p1, p2, hm⟩ := inOk_of hc
      exact .inl ⟨_, toPyL xs, h1.dp p1, .inl (h2.dp (d := .lst xs) (by simp only [plain]; exact p2)), toPy_lay _ p1, toPyL_lay _ p2, hm, by rw [any_eq p1 p2]; exact q⟩
    · cases hp
  · split at hp
    · cases hp
      exact .inr ⟨_, _, h1.str, h2.str, q⟩
    · cases hp
  · cases hp
theorem pr_in {S : Sg} {K : PySem.W.Frag} (hK : K = S.K) : Pr2 S (rInF K false) pIn := fun W σ H e M d1 d2 v1 v2 own d Q r h1 h2 hp g => by
  subst hK; exact in_of r h1 h2 (by rw [if_neg Bool.false_ne_true]; exact hp) g
theorem pr_notIn {S : Sg} {K : PySem.W.Frag} (hK : K = S.K) : Pr2 S (rInF K true) pNotIn := fun W σ H e M d1 d2 v1 v2 own d Q r h1 h2 hp g => by
  subst hK; exact in_of r h1 h2 (by rw [if_pos rfl]; exact hp) g

/-! ### subscripts -/
def pIx : D → D → Option (Bool × D)
  | .tup xs, .int i => (atI xs i).map fun d => (false, d)
  | .lst xs, .int i => (atI xs i).map fun d => (false, d)
  | .str x, .int i => if szOk (tx x).length = true then (atI (tx x) i).map fun c => (false, .str (mkS [c])) else none
  | _, _ => none
theorem FzL.atI {S : Sg} {W : Wd} {H : Hp} {xs : List D} {vs : List V} {i : Int} {d : D} (l : FzL S W H xs vs) (h : L2.atI xs i = some d) : ∃ v, L2.atI vs i = some v ∧ Fz S W H d v := by
  unfold L2.atI at h ⊢
  rw [← l.length]
  cases hn : ixN xs.length i with
  | none => rw [hn] at h; cases h
  | some j =>
    rw [hn] at h
    exact l.get h
/-- an item of the script: it is a number, whichever -/
def atScr (ns : List Int) (i : Int) : Option D := (atI ns i).map D.int
theorem map_some {α β : Type} {f : α → β} {o : Option α} {b : β} (h : o.map f = some b) : ∃ a, o = some a ∧ f a = b := by
  cases o with
  | none => cases h
  | some a => exact ⟨a, rfl, by cases h; rfl⟩
theorem pr_ix {S : Sg} {K : PySem.W.Frag} (hK : K = S.K) : Pr2 S (rIx K) pIx := by
  intro W σ H e M d1 d2 v1 v2 own d Q r h1 h2 hp g
  subst hK
  unfold pIx at hp
  split at hp
  · rename_i xs i
    obtain ⟨x, hx, e1⟩ := map_some hp
    cases e1
    obtain ⟨a, vs, rfl, ha, la, _⟩ := h1.tup
    obtain ⟨v, hv, fv⟩ := la.atI hx
    exact .inr (.inl ⟨a, vs, i, v, rfl, h2.int, ha, hv, g.now r fv⟩)
  · rename_i xs i
    obtain ⟨x, hx, e1⟩ := map_some hp
    cases e1
    obtain ⟨a, vs, rfl, ha, la⟩ := h1.lst
    obtain ⟨v, hv, fv⟩ := la.atI hx
    exact .inl ⟨a, vs, i, v, rfl, h2.int, SqL.of ha, hv, g.now r fv⟩
  · rename_i x i
    split at hp
    · rename_i hc
      obtain ⟨c, hx, e1⟩ := map_some hp
      cases e1
      exact .inr (.inr ⟨x, i, c, h1.str, h2.int, by simpa [Str.length, tx] using szOk_of hc, hx, g.now r (by simp only [Fz]; rfl)⟩)
    · cases hp
  · cases hp
/-- script[i] -/
def pIxS (ns : List Int) : D → D → Option (Bool × D)
  | .scr, .int i => (atI ns i).map fun n => (false, .int n)
  | a, b => pIx a b
theorem pr_ixS {S : Sg} {K : PySem.W.Frag} (hK : K = S.K) : Pr2 S (rIx K) (pIxS S.ns) := by
  intro W σ H e M d1 d2 v1 v2 own d Q r h1 h2 hp g
  unfold pIxS at hp
  split at hp
  · rename_i i
    obtain ⟨n, hx, e1⟩ := map_some hp
    cases e1
    obtain ⟨rfl, hs⟩ := h1.scr
    subst hK
    refine .inl ⟨S.sa, _, i, .int n, rfl, h2.int, hs, ?_, g.now r (by simp only [Fz])⟩
    unfold L2.atI at hx ⊢
    rw [List.length_map]
    cases hn : ixN S.ns.length i with
    | none => rw [hn] at hx; cases hx
    | some j =>
      rw [hn] at hx
      rw [Option.bind_some] at hx ⊢
      rw [List.getElem?_map, hx]
      rfl
  · exact pr_ix hK W σ H e M _ _ v1 v2 own d Q r h1 h2 hp g
section
variable {S : Sg} {w : XK} {X : Cx} {pos p2 : Pos} {a b c : Expr} {f g h : Sm}
theorem se_ix (hK : X.K = S.K) (ha : PE X a (TEf S w f)) (hb : PE X b (TEf S w g)) (hs : PlainIx b) : PE X (.Subscript a b pos) (TEf S w (smOp2 (pIxS S.ns) f g)) :=
  peI (pe_ix ix_seq ha hb hs) fun _ _ _ z => op2_of (pr_ixS hK) z

/-! ### slices -/
def bindP (o : Option Sm) (k : Option Int → Env' → Sto → Ro) : Env' → Sto → Ro := fun e M => match o with
  | none => k none e M
  | some g => bindS (g e M) fun _ d e1 M1 => match d with
    | .int i => k (some i) e1 M1
    | _ => none
def tPo (S : Sg) (w : XK) (o : Option Sm) : TO := match o with
  | none => tNoPart
  | some g => tPart (TEf S w g)
theorem KE.bindP {W : Wd} {e : Env'} {σ : L2.St} {H : Hp} {M : Sto} {o : Option Sm} {k : Option Int → Env' → Sto → Ro} {Q : VK} {Q' : Option Int → Hp → Prop} (h0 : KE S w W e σ H (bindP o k e M) Q) (r : Rel S W σ H e M)
    (c : ∀ i e1 M1 W1 H1, Rel S W1 σ H1 e1 M1 → Post W e σ H W1 e1 σ H1 → KE S w W1 e1 σ H1 (k i e1 M1) Q → Q' i H1) : tPo S w o σ H Q' := by
  cases o with
  | none => exact c none e M W H r Post.refl h0
  | some g =>
    refine ⟨W, e, M, r, KE.bind h0 fun own d e1 M1 W1 H1 v r1 p1 q1 k1 => ?_⟩
    obtain ⟨W3, r3, p3, f3⟩ := r1.res_add p1 q1
    cases d with
    | int i =>
      simp only [Fz] at f3
      exact ⟨i, f3, c (some i) e1 M1 W3 H1 r3 p3 (k1.shift p3)⟩
    | _ => exact k1.elim
inductive POs (S : Sg) (w : XK) (X : Cx) : Option Expr → Option Sm → Prop
  | none : POs S w X none none
  | some {e : Expr} {g : Sm} (h : PE X e (TEf S w g)) : POs S w X (some e) (some g)
theorem POs.po {o : Option Expr} {g : Option Sm} (h : POs S w X o g) : PO X o (tPo S w g) := by
  cases h with
  | none => exact po_none
  | some h => exact po_some h
def cutL {α : Type} (xs : List α) (lo hi : Option Int) : List α := (xs.drop (HT.sIx xs.length 0 lo)).take (HT.sIx xs.length xs.length hi - HT.sIx xs.length 0 lo)
def pSl (d : D) (lo hi : Option Int) : Option (Bool × D) := match d with
  | .tup xs => some (false, .tup (cutL xs lo hi))
  | .lst xs => some (true, .lst (cutL xs lo hi))
  | .str x => if szOk (tx x).length = true then some (false, .str (mkS (cutL (tx x) lo hi))) else none
  | _ => none
def smSl (f : Sm) (lo hi : Option Sm) : Sm := fun e M => bindS (f e M) fun _ d e1 M1 => bindP lo (fun l => bindP hi fun u e2 M2 => out1 (pSl d l u) e2 M2) e1 M1
theorem FzL.cut {W : Wd} {H : Hp} {xs : List D} {vs : List V} (l : FzL S W H xs vs) (lo hi : Option Int) : FzL S W H (cutL xs lo hi) (cutV vs lo hi) := by
  unfold cutL cutV
  rw [l.length]
  exact (l.drop _).take _
def rSlF (K : PySem.W.Frag) : V → Option Int → Option Int → Hp → VK → Prop := fun x lo hi H Q => rSlA K x lo hi H Q ∨ rSlL K x lo hi H Q ∨ rSlS x lo hi H Q
theorem sl_all : SlR X (rSlF X.K) := SlR.or sl_tupA (SlR.or sl_list sl_str)
theorem sIx_le' (n d : Nat) (hd : d ≤ n) (o : Option Int) (h : ∀ i, o = some i → 0 ≤ i ∨ True) : True := trivial
theorem cutL_whole {α : Type} {xs : List α} {lo hi : Option Int} (h : HT.sIx xs.length 0 lo = 0 ∧ HT.sIx xs.length xs.length hi = xs.length) : cutL xs lo hi = xs := by
  unfold cutL
  rw [h.1, h.2]
  simp
theorem slice_of {W : Wd} {σ : L2.St} {H : Hp} {e : Env'} {M : Sto} {d0 d : D} {v : V} {own : Bool} {lo hi : Option Int} {Q : VK} (r : Rel S W σ H e M) (h : Rb S W H d0 v) (hp : pSl d0 lo hi = some (own, d)) (g : Gv S W e σ H M own d Q) : rSlF S.K v lo hi H Q := by
  unfold pSl at hp
  split at hp
  · cases hp
    obtain ⟨a, vs, rfl, ha, la, fa⟩ := h.tup
    refine .inl ⟨a, vs, rfl, ha, fun hw => ?_, fun _ => g.tup r (la.cut lo hi)⟩
    rw [← la.length] at hw
    rw [cutL_whole hw] at g
    exact g.now r fa
  · cases hp
    obtain ⟨a, vs, rfl, ha, la⟩ := h.lst
    exact .inr (.inl ⟨a, vs, rfl, SqL.of ha, g.lst r (la.cut lo hi)⟩)
  · split at hp
    · rename_i x hc
      cases hp
      refine .inr (.inr ⟨_, h.str, by simpa [Str.length, tx] using szOk_of hc, g.now r ?_⟩)
      simp only [Fz]
      have : (tx x).length = x.length := by simp [Str.length, tx]
      unfold cutL
      rw [this]
      rfl
    · cases hp
  · cases hp
theorem se_slice {lo hi : Option Expr} {lo' hi' : Option Sm} (hK : X.K = S.K) (ha : PE X a (TEf S w f)) (hl : POs S w X lo lo') (hu : POs S w X hi hi') : PE X (.Subscript a (.Slice lo hi none p2) pos) (TEf S w (smSl f lo' hi')) := by
  refine peI (pe_slice sl_all ha hl.po hu.po) fun σ H Q ⟨W, e, M, r, k⟩ => ⟨W, e, M, r, KE.bindF k fun own d e1 M1 W1 H1 v r1 f1 k1 => ?_⟩
  refine KE.bindP k1 r1 fun l e2 M2 W2 H2 r2 p2 k2 => KE.bindP k2 r2 fun u e3 M3 W3 H3 r3 p3 k3 => ?_
  obtain ⟨own4, d4, e4, gv⟩ := KE.out1 k3
  rw [hK]
  exact slice_of r3 (.inl ((f1.stays (p2.stays r1)).stays (p3.stays r2))) e4 gv
/-- -x -/
def pNeg : D → Option (Bool × D)
  | .int i => some (false, .int (-i))
  | _ => none
def smOp1 (p : D → Option (Bool × D)) (f : Sm) : Sm := fun e M => bindS (f e M) fun _ d1 e1 M1 => out1 (p d1) e1 M1
theorem se_neg (ha : PE X a (TEf S w f)) : PE X (.UnaryOp .USub a pos) (TEf S w (smOp1 pNeg f)) := by
  refine peI (pe_un un_neg ha) fun σ H Q ⟨W, e, M, r, k⟩ => ⟨W, e, M, r, KE.bindF k fun own d e1 M1 W1 H1 v r1 f1 k1 => ?_⟩
  obtain ⟨own4, d4, e4, gv⟩ := KE.out1 k1
  unfold pNeg at e4
  split at e4
  · rename_i i
    cases e4
    simp only [Fz] at f1
    exact ⟨i, f1, gv.now r1 (by simp only [Fz])⟩
  · cases e4
end
end EV

/-! EvI: slots looked at and not frozen, objects written. -/
namespace EV
open PySem PySem.Spec PyProof.Rows L2

section
variable {S : Sg} {W : Wd} {σ : L2.St} {H : Hp} {e : Env'} {M : Sto}
/-- a name's datum -/
def pk (e : Env') (i : Nat) : Option D := match e[i]? with
  | some (some (_, d)) => some d
  | _ => none
/-- a list of the store, looked at -/
def dr (M : Sto) (d : D) : D := match d with
  | .rf n => match M[n]? with
    | some (.lst xs) => .lst xs
    | _ => d
  | _ => d
theorem Rel.dr (r : Rel S W σ H e M) {d : D} {v : V} (h : Rb S W H d v) : Rb S W H (EV.dr M d) v := by
  unfold EV.dr
  split
  · rename_i n
    split
    · rename_i xs hx
      rcases h with h | ⟨a, _, h⟩
      · simp only [Fz] at h
        obtain ⟨a, ha, rfl⟩ := h
        obtain ⟨b, h1, h2⟩ := r.st n _ hx
        rw [ha] at h1
        cases h1
        exact .inr ⟨a, rfl, h2⟩
      · exact h.elim
    · exact h
  · exact h
theorem Rel.pk (r : Rel S W σ H e M) {i : Nat} {d : D} (h : pk e i = some d) : ∃ v, σ[i]? = some (some v) ∧ Rb S W H d v := by
  unfold EV.pk at h
  split at h
  · rename_i o d' h1
    cases h
    cases o with
    | false =>
      obtain ⟨v, h2, h3⟩ := r.sh i _ h1
      exact ⟨v, h2, .inl h3⟩
    | true =>
      obtain ⟨a, h2, h3⟩ := r.ow i _ h1
      exact ⟨_, h2, .inr ⟨a, rfl, h3⟩⟩
  · cases h
/-- an object of one's own is written -/
theorem Rel.upd_own (r : Rel S W σ H e M) {i : Nat} {d d' : D} {a : Addr} {o : HO} (h : e[i]? = some (some (true, d))) (hs : σ[i]? = some (some (.ref a))) (ob : Ob S W (upd H a o) d' a) :
    Rel S W σ (upd H a o) (e.set i (some (true, d'))) M ∧ Post W e σ H W (e.set i (some (true, d'))) σ (upd H a o) := by
  have oa : Own e σ a := ⟨i, d, h, hs⟩
  have nf : ¬ W.F a := fun f => (r.fr a f).2.2 oa
  have nr := r.or_ a oa
  obtain ⟨a0, ha0, oba⟩ := r.ow i d h
  rw [hs] at ha0
  cases ha0
  obtain ⟨oa0, hoa, pla⟩ := oba.plain
  have st : Stays W H W (upd H a o) := Stays.put nf
  have hi : i < e.length := (List.getElem?_eq_some_iff.mp h).1
  have old : ∀ {j : Nat} {d1 : D}, (e.set i (some (true, d')))[j]? = some (some (true, d1)) → ∃ d2, e[j]? = some (some (true, d2)) := fun {j d1} z => by
    rcases getElem?_set_cases z with ⟨rfl, _⟩ | ⟨_, z⟩
    · exact ⟨d, h⟩
    · exact ⟨d1, z⟩
  have ow : ∀ {b : Addr}, Own (e.set i (some (true, d'))) σ b → Own e σ b := fun {b} ⟨j, d1, z1, z2⟩ => by
    obtain ⟨d2, z⟩ := old z1
    exact ⟨j, d2, z, z2⟩
  have ne : ∀ {b : Addr}, b ≠ a → ∀ u, H b = some u → upd H a o b = some u := fun {b} nb u z => by rw [upd_ne nb]; exact z
  refine ⟨⟨by rw [List.length_set]; exact r.len, fun j d1 z => ?_, fun j d1 z => ?_, fun j k d1 d2 b z1 z2 z3 z4 => ?_, r.sl, fun n x z => ?_, ⟨r.nd.1, tabs_upd r.nd.2 hoa pla⟩, fun b f => ?_, fun b z => r.or_ b (ow z)⟩, ⟨fun b u z _ no _ => ne (fun q => no (by rw [q]; exact oa)) u z, fun b z => ?_, fun _ f => f, fun _ f => .inl f, fun _ _ z => z, fun _ z => .inl z, fun b z => .inl (ow z)⟩⟩
  · rcases getElem?_set_cases z with ⟨_, z⟩ | ⟨_, z⟩
    · cases z
    · obtain ⟨v, h1, h2⟩ := r.sh j d1 z
      exact ⟨v, h1, h2.stays st⟩
  · rcases getElem?_set_cases z with ⟨rfl, y⟩ | ⟨hj, z⟩
    · cases y
      exact ⟨a, hs, ob⟩
    · obtain ⟨b, h1, h2⟩ := r.ow j d1 z
      have nb : b ≠ a := fun q => hj (r.inj j i d1 d a z h (q ▸ h1) hs)
      exact ⟨b, h1, h2.stays st fun u q _ => ne nb u q⟩
  · obtain ⟨e1, z1⟩ := old z1
    obtain ⟨e2, z2⟩ := old z2
    exact r.inj j k e1 e2 b z1 z2 z3 z4
  · obtain ⟨b, h1, h2⟩ := r.st n x z
    have nb : b ≠ a := fun q => nr (q ▸ List.mem_of_getElem? h1)
    exact ⟨b, h1, h2.stays st fun u q _ => ne nb u q⟩
  · obtain ⟨⟨u, hu, ht⟩, h2, h3⟩ := r.fr b f
    have nb : b ≠ a := fun q => nf (q ▸ f)
    exact ⟨⟨u, ne nb u hu, ht⟩, h2, fun z => h3 (ow z)⟩
  · by_cases nb : b = a
    · subst nb
      obtain ⟨u1, hu1, ht1⟩ := ob.at
      exact nw_no hu1 ht1
    · exact nw_grow (fun u1 hu1 _ => by rw [upd_ne nb]; exact hu1) z
/-- an object of the store is written -/
theorem Rel.upd_sto (r : Rel S W σ H e M) {n : Nat} {o o' : SO} {a : Addr} {u : HO} (h : M[n]? = some o) (hs : W.ρ[n]? = some a) (ob : ObS S W (upd H a u) o' a) :
    Rel S W σ (upd H a u) e (M.set n o') ∧ Post W e σ H W e σ (upd H a u) := by
  have ma : a ∈ W.ρ := List.mem_of_getElem? hs
  have nf : ¬ W.F a := fun f => (r.fr a f).2.1 ma
  have no : ¬ Own e σ a := fun z => r.or_ a z ma
  obtain ⟨a0, ha0, oba⟩ := r.st n o h
  rw [hs] at ha0
  cases ha0
  obtain ⟨oa0, hoa, pla⟩ := oba.plain
  have st : Stays W H W (upd H a u) := Stays.put nf
  have ne : ∀ {b : Addr}, b ≠ a → ∀ u', H b = some u' → upd H a u b = some u' := fun {b} nb u' z => by rw [upd_ne nb]; exact z
  refine ⟨⟨r.len, fun j d1 z => ?_, fun j d1 z => ?_, r.inj, by rw [List.length_set]; exact r.sl, fun m x z => ?_, ⟨r.nd.1, tabs_upd r.nd.2 hoa pla⟩, fun b f => ?_, r.or_⟩, ⟨fun b u' z _ _ nr => ne (fun q => nr (by rw [q]; exact ma)) u' z, fun b z => ?_, fun _ f => f, fun _ f => .inl f, fun _ _ z => z, fun _ z => .inl z, fun b z => .inl z⟩⟩
  · obtain ⟨v, h1, h2⟩ := r.sh j d1 z
    exact ⟨v, h1, h2.stays st⟩
  · obtain ⟨b, h1, h2⟩ := r.ow j d1 z
    exact ⟨b, h1, h2.stays st fun u' q _ => ne (fun q => no ⟨j, d1, z, q ▸ h1⟩) u' q⟩
  · rcases getElem?_set_cases z with ⟨rfl, y⟩ | ⟨hj, z⟩
    · cases y
      exact ⟨a, hs, ob⟩
    · obtain ⟨b, h1, h2⟩ := r.st m x z
      have nb : b ≠ a := fun q => by
        subst q
        obtain ⟨hm, e1⟩ := List.getElem?_eq_some_iff.mp h1
        obtain ⟨hn, e2⟩ := List.getElem?_eq_some_iff.mp hs
        exact hj ((List.getElem_inj r.nd.1).mp (e1.trans e2.symm))
      exact ⟨b, h1, h2.stays st fun u' q _ => ne nb u' q⟩
  · obtain ⟨⟨u', hu, ht⟩, h2, h3⟩ := r.fr b f
    have nb : b ≠ a := fun q => nf (q ▸ f)
    exact ⟨⟨u', ne nb u' hu, ht⟩, h2, h3⟩
  · by_cases nb : b = a
    · subst nb
      obtain ⟨u1, hu1, ht1⟩ := ob.at
      exact nw_no hu1 ht1
    · exact nw_grow (fun u1 hu1 _ => by rw [upd_ne nb]; exact hu1) z
/-- a new object of the store -/
def Wd.addR (W : Wd) (a : Addr) : Wd := ⟨W.F, W.ρ ++ [a]⟩
theorem Rel.new_sto (r : Rel S W σ H e M) {a : Addr} {u : HO} {o : SO} (h : H a = none) (ob : ObS S (W.addR a) (upd H a u) o a) :
    Rel S (W.addR a) σ (upd H a u) e (M ++ [o]) ∧ Post W e σ H (W.addR a) e σ (upd H a u) := by
  have nf : ¬ W.F a := r.none_F h
  have nr : a ∉ W.ρ := r.none_sto h
  have no : ¬ Own e σ a := r.none_own h
  have up : ∀ (n : Nat) (b : Addr), W.ρ[n]? = some b → (W.ρ ++ [a])[n]? = some b := fun n b z => by
    rw [List.getElem?_append_left (List.getElem?_eq_some_iff.mp z).1]; exact z
  have st : Stays W H (W.addR a) (upd H a u) := ⟨fun b f => ⟨f, fun v z _ => by rw [upd_ne (fun q => nf (by rw [← q]; exact f))]; exact z⟩, up⟩
  have ne : ∀ {b : Addr}, b ≠ a → ∀ u', H b = some u' → upd H a u b = some u' := fun {b} nb u' z => by rw [upd_ne nb]; exact z
  refine ⟨⟨r.len, fun j d1 z => ?_, fun j d1 z => ?_, r.inj, by show _ = (W.ρ ++ [a]).length; rw [List.length_append, List.length_append, r.sl]; rfl, fun m x z => ?_, ⟨?_, r.nd.2.ext (fun b u' z => ne (ne_of_none z h) u' z)⟩, fun b f => ?_, fun b z => ?_⟩, ⟨fun b u' z _ _ _ => ne (ne_of_none z h) u' z, fun b z => ?_, fun _ f => f, fun _ f => .inl f, up, fun b z => ?_, fun b z => .inl z⟩⟩
  · obtain ⟨v, h1, h2⟩ := r.sh j d1 z
    exact ⟨v, h1, h2.stays st⟩
  · obtain ⟨b, h1, h2⟩ := r.ow j d1 z
    exact ⟨b, h1, h2.stays st fun u' q _ => ne (fun q => no ⟨j, d1, z, q ▸ h1⟩) u' q⟩
  · by_cases hm : m < M.length
    · rw [List.getElem?_append_left hm] at z
      obtain ⟨b, h1, h2⟩ := r.st m x z
      exact ⟨b, up m b h1, h2.stays st fun u' q _ => ne (fun q => nr (q ▸ List.mem_of_getElem? h1)) u' q⟩
    · have hmm : m = M.length := by
        have := (List.getElem?_eq_some_iff.mp z).1
        rw [List.length_append, List.length_singleton] at this
        omega
      subst hmm
      rw [List.getElem?_append_right (Nat.le_refl _), Nat.sub_self] at z
      cases z
      refine ⟨a, ?_, ob⟩
      show (W.ρ ++ [a])[M.length]? = some a
      rw [r.sl, List.getElem?_append_right (Nat.le_refl _), Nat.sub_self]
      rfl
  · show (W.ρ ++ [a]).Nodup
    rw [List.nodup_append]
    exact ⟨r.nd.1, by simp, fun x hx y hy => by simp only [List.mem_singleton] at hy; subst hy; exact fun q => nr (q ▸ hx)⟩
  · obtain ⟨⟨u', hu, ht⟩, h2, h3⟩ := r.fr b f
    have nb : b ≠ a := fun q => nf (q ▸ f)
    exact ⟨⟨u', ne nb u' hu, ht⟩, fun z => (List.mem_append.mp z).elim h2 fun z => nb (List.mem_singleton.mp z), h3⟩
  · exact fun q => (List.mem_append.mp q).elim (r.or_ b z) fun q => no (List.mem_singleton.mp q ▸ z)
  · by_cases nb : b = a
    · subst nb
      obtain ⟨u1, hu1, ht1⟩ := ob.at
      exact nw_no hu1 ht1
    · exact nw_grow (fun u1 hu1 _ => by rw [upd_ne nb]; exact hu1) z
  · exact (List.mem_append.mp z).elim .inl fun q => .inr (.inl (List.mem_singleton.mp q ▸ h))
end

section
variable {S : Sg} {w : XK} {X : Cx} {pos : Pos} {a b c : Expr} {f g h : Sm} {t : SmA} {es : List Expr}
/-- a list display, kept in the store -/
def smLstS (t : SmA) : Sm := fun e M => bindA (t e M) fun ds e1 M1 => if ds.length ≤ sizeLine then some (.ok false (.rf M1.length), e1, M1 ++ [.lst ds]) else none
theorem se_lstS (h : PA X es (TAf S w t)) : PE X (.List es pos) (TEf S w (smLstS t)) := by
  refine peI (pe_lst h) fun σ H Q ⟨W, e, M, r, k⟩ => ⟨W, e, M, r, KE.bindA k fun ds e1 M1 W1 H1 vs r1 f1 k1 => ?_⟩
  split at k1
  · rename_i hl
    refine ⟨by rw [← f1.length]; exact hl, fun p hp => ?_⟩
    have st : Stays W1 H1 (W1.addR p) (upd H1 p (.lst vs)) := ⟨fun b f => ⟨f, fun v z _ => upd_keep hp b v z⟩, fun n b z => by
      show (W1.ρ ++ [p])[n]? = some b
      rw [List.getElem?_append_left (List.getElem?_eq_some_iff.mp z).1]; exact z⟩
    obtain ⟨r2, p2⟩ := r1.new_sto (o := .lst ds) hp ⟨vs, upd_same, f1.stays st⟩
    refine k1 _ _ _ r2 p2 ?_
    simp only [Res, Fz]
    refine ⟨p, ?_, rfl⟩
    show (W1.ρ ++ [p])[M1.length]? = some p
    rw [r1.sl, List.getElem?_append_right (Nat.le_refl _), Nat.sub_self]
    rfl
  · exact k1.elim

/-! ### operands that are looked at -/
/-- the first is a name -/
def smPkL (p : D → D → Option (Bool × D)) (i : Nat) (g : Sm) : Sm := fun e M => match pk e i with
  | none => none
  | some _ => bindS (g e M) fun _ d2 e1 M1 => match pk e1 i with
    | none => none
    | some d1 => out1 (p (dr M1 d1) d2) e1 M1
def smPkR (p : D → D → Option (Bool × D)) (f : Sm) (i : Nat) : Sm := fun e M => bindS (f e M) fun _ d1 e1 M1 => match pk e1 i with
  | none => none
  | some d2 => out1 (p d1 (dr M1 d2)) e1 M1
def smPk1 (p : D → Option (Bool × D)) (i : Nat) : Sm := fun e M => match pk e i with
  | none => none
  | some d => out1 (p (dr M d)) e M
/-- the values' side of a name -/
def tVar (i : Nat) : TE := fun σ H Q => ∃ v, σ[i]? = some (some v) ∧ Q v H
theorem pkL_of {r : R2} {p : D → D → Option (Bool × D)} (hp : Pr2 S r p) {i : Nat} {σ : L2.St} {H : Hp} {Q : VK} (h : TEf S w (smPkL p i g) σ H Q) : tOp r (tVar i) (TEf S w g) σ H Q := by
  obtain ⟨W, e, M, r0, k⟩ := h
  unfold smPkL at k
  split at k
  · exact k.elim
  · rename_i d0 h0
    obtain ⟨v, hv, _⟩ := r0.pk h0
    refine ⟨v, hv, W, e, M, r0, KE.bindF k fun own d2 e1 M1 W1 H1 v1 r1 f1 k1 => ?_⟩
    split at k1
    · exact k1.elim
    · rename_i d1 h1
      obtain ⟨v', hv', rb⟩ := r1.pk h1
      rw [hv] at hv'
      cases hv'
      obtain ⟨own3, d, e3, gv⟩ := KE.out1 k1
      exact hp W1 σ H1 e1 M1 _ d2 v v1 own3 d Q r1 (r1.dr rb) (.inl f1) e3 gv
theorem pkR_of {r : R2} {p : D → D → Option (Bool × D)} (hp : Pr2 S r p) {i : Nat} {σ : L2.St} {H : Hp} {Q : VK} (h : TEf S w (smPkR p f i) σ H Q) : tOp r (TEf S w f) (tVar i) σ H Q := by
  obtain ⟨W, e, M, r0, k⟩ := h
  refine ⟨W, e, M, r0, KE.bindF k fun own d1 e1 M1 W1 H1 v1 r1 f1 k1 => ?_⟩
  split at k1
  · exact k1.elim
  · rename_i d2 h2
    obtain ⟨v, hv, rb⟩ := r1.pk h2
    obtain ⟨own3, d, e3, gv⟩ := KE.out1 k1
    exact ⟨v, hv, hp W1 σ H1 e1 M1 d1 _ v1 v own3 d Q r1 (.inl f1) (r1.dr rb) e3 gv⟩
theorem se_ixL {i : Nat} {x : Str} {p : Pos} (hK : X.K = S.K) (hN : X.N[i]? = some x) (hv : Vis X.env.scope x) (hd : (x == ("__debug__" : Str)) = false) (hcd : (x == ("__classdict__" : Str)) = false) (hb : PE X b (TEf S w g)) (hs : PlainIx b) :
    PE X (.Subscript (.Name x p) b pos) (TEf S w (smPkL (pIxS S.ns) i g)) :=
  peI (pe_ix ix_seq (pe_var hN hv hd hcd) hb hs) fun _ _ _ z => pkL_of (pr_ixS hK) z
theorem se_cmpR {i : Nat} {x : Str} {p : Pos} {op : CmpOp} {r : R2} {pp : D → D → Option (Bool × D)} (hN : X.N[i]? = some x) (hv : Vis X.env.scope x) (hd : (x == ("__debug__" : Str)) = false) (hcd : (x == ("__classdict__" : Str)) = false)
    (ho : OpR X (compareOp op) r) (hp : Pr2 S r pp) (ha : PE X a (TEf S w f)) (hm : behindInMarks op (.Name x p) = false) : PE X (.Compare a [op] [.Name x p] pos) (TEf S w (smPkR pp f i)) :=
  peI (pe_cmpR ho ha (pe_var hN hv hd hcd) hm) fun _ _ _ z => pkR_of hp z
theorem st_cmpR {i : Nat} {x : Str} {p : Pos} {op : CmpOp} {r : R2} {pp : D → D → Option (Bool × D)} (hN : X.N[i]? = some x) (hv : Vis X.env.scope x) (hd : (x == ("__debug__" : Str)) = false) (hcd : (x == ("__classdict__" : Str)) = false)
    (ho : OpR X (compareOp op) r) (hp : Pr2 S r pp) (ha : PE X a (TEf S w f)) (hm : behindInMarks op (.Name x p) = false) : PT X (.Compare a [op] [.Name x p] pos) (TTf S w (smPkR pp f i)) :=
  ptI (pt_cmpR ho ha (pe_var hN hv hd hcd) hm) fun _ _ _ ⟨W, e, M, r, k⟩ => pkR_of hp ⟨W, e, M, r, k.ofE⟩
theorem se_cmpL {i : Nat} {x : Str} {p : Pos} {op : CmpOp} {r : R2} {pp : D → D → Option (Bool × D)} (hN : X.N[i]? = some x) (hv : Vis X.env.scope x) (hd : (x == ("__debug__" : Str)) = false) (hcd : (x == ("__classdict__" : Str)) = false)
    (ho : OpR X (compareOp op) r) (hp : Pr2 S r pp) (hb : PE X b (TEf S w g)) (hm : behindInMarks op b = false) : PE X (.Compare (.Name x p) [op] [b] pos) (TEf S w (smPkL pp i g)) :=
  peI (pe_cmpR ho (pe_var hN hv hd hcd) hb hm) fun _ _ _ z => pkL_of hp z
theorem st_cmpL {i : Nat} {x : Str} {p : Pos} {op : CmpOp} {r : R2} {pp : D → D → Option (Bool × D)} (hN : X.N[i]? = some x) (hv : Vis X.env.scope x) (hd : (x == ("__debug__" : Str)) = false) (hcd : (x == ("__classdict__" : Str)) = false)
    (ho : OpR X (compareOp op) r) (hp : Pr2 S r pp) (hb : PE X b (TEf S w g)) (hm : behindInMarks op b = false) : PT X (.Compare (.Name x p) [op] [b] pos) (TTf S w (smPkL pp i g)) :=
  ptI (pt_cmpR ho (pe_var hN hv hd hcd) hb hm) fun _ _ _ ⟨W, e, M, r, k⟩ => pkL_of hp ⟨W, e, M, r, k.ofE⟩
def smSlL (i : Nat) (lo hi : Option Sm) : Sm := fun e M => match pk e i with
  | none => none
  | some _ => bindP lo (fun l => bindP hi fun u e2 M2 => match pk e2 i with
    | none => none
    | some d => out1 (pSl (dr M2 d) l u) e2 M2) e M
theorem se_sliceL {i : Nat} {x : Str} {p p2 : Pos} {lo hi : Option Expr} {lo' hi' : Option Sm} (hK : X.K = S.K) (hN : X.N[i]? = some x) (hv : Vis X.env.scope x) (hd : (x == ("__debug__" : Str)) = false) (hcd : (x == ("__classdict__" : Str)) = false) (hl : POs S w X lo lo') (hu : POs S w X hi hi') :
    PE X (.Subscript (.Name x p) (.Slice lo hi none p2) pos) (TEf S w (smSlL i lo' hi')) := by
  refine peI (pe_slice sl_all (pe_var hN hv hd hcd) hl.po hu.po) fun σ H Q ⟨W, e, M, r, k⟩ => ?_
  unfold smSlL at k
  split at k
  · exact k.elim
  · rename_i d0 h0
    obtain ⟨v, hv, _⟩ := r.pk h0
    refine ⟨v, hv, ?_⟩
    refine KE.bindP k r fun l e2 M2 W2 H2 r2 p2 k2 => KE.bindP k2 r2 fun u e3 M3 W3 H3 r3 p3 k3 => ?_
    split at k3
    · exact k3.elim
    · rename_i d1 h1
      obtain ⟨v', hv', rb⟩ := r3.pk h1
      rw [hv] at hv'
      cases hv'
      obtain ⟨own4, d4, e4, gv⟩ := KE.out1 k3
      rw [hK]
      exact slice_of r3 (r3.dr rb) e4 gv

/-! ### built-in functions of data -/
def PrN (S : Sg) (r : List V → Hp → VK → Prop) (p : List D → Option (Bool × D)) : Prop := ∀ W σ H e M ds vs own d Q, Rel S W σ H e M → FzL S W H ds vs → p ds = some (own, d) → Gv S W e σ H M own d Q → r vs H Q
def smCB (p : List D → Option (Bool × D)) (t : SmA) : Sm := fun e M => bindA (t e M) fun ds e1 M1 => out1 (p ds) e1 M1
theorem cb_of {r : List V → Hp → VK → Prop} {p : List D → Option (Bool × D)} (hp : PrN S r p) {σ : L2.St} {H : Hp} {Q : VK} (z : TEf S w (smCB p t) σ H Q) : tCB r (TAf S w t) σ H Q := by
  obtain ⟨W, e, M, r0, k⟩ := z
  refine ⟨W, e, M, r0, KE.bindA k fun ds e1 M1 W1 H1 vs r1 f1 k1 => ?_⟩
  obtain ⟨own3, d, e3, gv⟩ := KE.out1 k1
  exact hp W1 σ H1 e1 M1 ds vs own3 d Q r1 f1 e3 gv
theorem se_callB {id : String} {x : Str} {r : List V → Hp → VK → Prop} {pp : List D → Option (Bool × D)} {p : Pos} (hp : PrN S r pp) (hc : CallR X (.builtin id) r) (hg : Gl X x) (hm : X.mg x = none) (hv : bootBuiltins x = some (.builtin id)) (ha : PA X (a :: es) (TAf S w t))
    (hn : x ≠ "__name__" := by decide) (hdb : (x == ("__debug__" : Str)) = false := by decide) (he : starEach (a :: es) X.env = (false, eval a X.env) :: starEach es X.env := by rfl) (hpl : (backTo pos (starEach es X.env)).any (·.1) = false := by rfl) :
    PE X (.Call (.Name x p) (a :: es) [] pos) (TEf S w (smCB pp t)) := peI (pe_callB hc hg hm hv ha hn hdb he hpl) fun _ _ _ z => cb_of hp z
theorem se_callTy {T : String} {x : Str} {r : List V → Hp → VK → Prop} {pp : List D → Option (Bool × D)} {p : Pos} (hp : PrN S r pp) (hc : CallR X (.type T) r) (hg : Gl X x) (hm : X.mg x = none) (hv : bootBuiltins x = some (.type T)) (ha : PA X (a :: es) (TAf S w t))
    (hn : x ≠ "__name__" := by decide) (hdb : (x == ("__debug__" : Str)) = false := by decide) (he : starEach (a :: es) X.env = (false, eval a X.env) :: starEach es X.env := by rfl) (hpl : (backTo pos (starEach es X.env)).any (·.1) = false := by rfl) :
    PE X (.Call (.Name x p) (a :: es) [] pos) (TEf S w (smCB pp t)) := peI (pe_callTy hc hg hm hv ha hn hdb he hpl) fun _ _ _ z => cb_of hp z
end
end EV

/-! EvJ: methods that write a list, stores by subscript, built-in functions, methods of texts and of lists. -/
namespace EV
open PySem PySem.Spec PyProof.Rows L2

section
variable {S : Sg} {w : XK} {X : Cx} {pos apos p : Pos} {a b c : Expr} {f g h : Sm} {t : SmA} {es : List Expr}

/-! ### methods that write -/
/-- by the items and the arguments: the new items, the answer -/
abbrev Mut := List D → List D → Option (List D × D)
def PrMut (S : Sg) (r : V → List V → Hp → VK → Prop) (p : Mut) : Prop := ∀ (W : Wd) (H : Hp) xs ds ys d l vs us Q, H l = some (.lst vs) → FzL S W H xs vs → FzL S W H ds us → p xs ds = some (ys, d) → (∀ vs' v, FzL S W H ys vs' → Fz S W H d v → Q v (upd H l (.lst vs'))) → r (.ref l) us H Q
def mutAt (p : Mut) (i : Nat) (ds : List D) (e : Env') (M : Sto) : Ro := match e[i]? with
  | some (some (true, .lst xs)) => match p xs ds with
    | some (ys, d) => some (.ok false d, e.set i (some (true, .lst ys)), M)
    | none => none
  | some (some (false, .rf n)) => match M[n]? with
    | some (.lst xs) => match p xs ds with
      | some (ys, d) => some (.ok false d, e, M.set n (.lst ys))
      | none => none
    | _ => none
  | _ => none
def isLst : D → Bool
  | .lst _ => true
  | _ => false
def smMut (p : Mut) (i : Nat) (t : SmA) : Sm := fun e M => match pk e i with
  | none => none
  | some d0 => if isLst (dr M d0) = true then bindA (t e M) fun ds e1 M1 => mutAt p i ds e1 M1 else none
theorem mut_of {K : PySem.W.Frag} {r : V → List V → Hp → VK → Prop} {pm : Mut} (hp : PrMut S r pm) {i : Nat} {σ : L2.St} {H : Hp} {Q : VK} (z : TEf S w (smMut pm i t) σ H Q) : tBM K "list" r (tVar i) (TAf S w t) σ H Q := by
  obtain ⟨W, e, M, r0, k⟩ := z
  unfold smMut at k
  split at k
  · exact k.elim
  rename_i d0 h0
  split at k
  · rename_i hl
    obtain ⟨v, hv, rb⟩ := r0.pk h0
    have rb' := r0.dr rb
    refine ⟨v, hv, ?_, W, e, M, r0, KE.bindA k fun ds e1 M1 W1 H1 us r1 f1 k1 => ?_⟩
    · cases hd : EV.dr M d0 with
      | lst xs =>
        rw [hd] at rb'
        obtain ⟨a, vs, rfl, ha, _⟩ := rb'.lst
        exact .inl ⟨rfl, vs, SqL.of ha⟩
      | _ => rw [hd] at hl; cases hl
    · unfold mutAt at k1
      split at k1
      · rename_i xs h1
        split at k1
        · rename_i ys d hpe
          obtain ⟨a, ha, vs, hH, la⟩ := r1.ow i _ h1
          rw [hv] at ha
          cases ha
          refine hp W1 H1 xs ds ys d a vs us Q hH la f1 hpe fun vs' v' ly fv => ?_
          have nf : ¬ W1.F a := fun q => (r1.fr a q).2.2 ⟨i, _, h1, hv⟩
          obtain ⟨r2, p2⟩ := r1.upd_own (o := .lst vs') (d' := .lst ys) h1 hv ⟨vs', upd_same, ly.stays (Stays.put nf)⟩
          exact k1 W1 _ v' r2 p2 (fv.stays (Stays.put nf))
        · exact k1.elim
      · rename_i n h1
        split at k1
        · rename_i xs hx
          split at k1
          · rename_i ys d hpe
            obtain ⟨v2, ha, fv2⟩ := r1.sh i _ h1
            rw [hv] at ha
            cases ha
            simp only [Fz] at fv2
            obtain ⟨a, hr, rfl⟩ := fv2
            obtain ⟨a', hr', vs, hH, la⟩ := r1.st n _ hx
            rw [hr] at hr'
            cases hr'
            refine hp W1 H1 xs ds ys d a vs us Q hH la f1 hpe fun vs' v' ly fv => ?_
            have nf : ¬ W1.F a := fun q => (r1.fr a q).2.1 (List.mem_of_getElem? hr)
            obtain ⟨r2, p2⟩ := r1.upd_sto (u := .lst vs') (o' := .lst ys) hx hr ⟨vs', upd_same, ly.stays (Stays.put nf)⟩
            exact k1 W1 _ v' r2 p2 (fv.stays (Stays.put nf))
          · exact k1.elim
        · exact k1.elim
      · exact k1.elim
  · exact k.elim
def mAppend : Mut := fun xs ds => match ds with
  | [d] => if Nat.blt xs.length sizeLine = true then some (xs ++ [d], .non) else none
  | _ => none
theorem FzL.one {W : Wd} {H : Hp} {d : D} {us : List V} (h : FzL S W H [d] us) : ∃ v, us = [v] ∧ Fz S W H d v := by
  simp only [FzL] at h
  obtain ⟨v, r, rfl, h1, rfl⟩ := h
  exact ⟨v, rfl, h1⟩
theorem FzL.two {W : Wd} {H : Hp} {d d' : D} {us : List V} (h : FzL S W H [d, d'] us) : ∃ v v', us = [v, v'] ∧ Fz S W H d v ∧ Fz S W H d' v' := by
  simp only [FzL] at h
  obtain ⟨v, r, rfl, h1, v', r', rfl, h2, rfl⟩ := h
  exact ⟨v, v', rfl, h1, h2⟩
theorem FzL.nil' {W : Wd} {H : Hp} {us : List V} (h : FzL S W H [] us) : us = [] := by simpa only [FzL] using h
theorem mut_append : PrMut S rAppend mAppend := by
  intro W H xs ds ys d l vs us Q hH la f1 hp q
  unfold mAppend at hp
  split at hp
  · split at hp
    · rename_i d0 hl
      cases hp
      obtain ⟨v, rfl, fv⟩ := f1.one
      exact ⟨l, vs, v, rfl, rfl, hH, by rw [← la.length]; exact Nat.lt_of_lt_of_le (Nat.lt_succ_self _) (Nat.le_of_ble_eq_true hl), q _ _ (la.append (FzL.cons fv FzL.nil)) (by simp only [Fz])⟩
    · cases hp
  · cases hp
def mExtend : Mut := fun xs ds => match ds with
  | [.lst zs] => if szOk (xs.length + zs.length) = true then some (xs ++ zs, .non) else none
  | _ => none
theorem mut_extend : PrMut S rExtend mExtend := by
  intro W H xs ds ys d l vs us Q hH la f1 hp q
  unfold mExtend at hp
  split at hp
  · split at hp
    · rename_i zs hl
      cases hp
      obtain ⟨v, rfl, fv⟩ := f1.one
      simp only [Fz] at fv
      obtain ⟨b, ws, rfl, t, lb⟩ := fv
      exact ⟨l, b, vs, ws, rfl, rfl, hH, t.2, by rw [← la.length, ← lb.length]; exact szOk_of hl, q _ _ (la.append lb) (by simp only [Fz])⟩
    · cases hp
  · cases hp
def mPop : Mut := fun xs ds => match ds with
  | [] => (xs[xs.length - 1]?).map fun d => (xs.dropLast, d)
  | _ => none
theorem FzL.dropLast {W : Wd} {H : Hp} {xs : List D} {vs : List V} (l : FzL S W H xs vs) : FzL S W H xs.dropLast vs.dropLast := by
  rw [List.dropLast_eq_take, List.dropLast_eq_take, l.length]
  exact l.take _
theorem FzL.eraseIdx {W : Wd} {H : Hp} : ∀ {xs : List D} {vs : List V} (n : Nat), FzL S W H xs vs → FzL S W H (xs.eraseIdx n) (vs.eraseIdx n)
  | [], vs, n, h => by simp only [FzL] at h; subst h; exact FzL.nil
  | d :: ds, vs, 0, h => by
    simp only [FzL] at h
    obtain ⟨v, r, rfl, h1, h2⟩ := h
    exact h2
  | d :: ds, vs, n + 1, h => by
    simp only [FzL] at h
    obtain ⟨v, r, rfl, h1, h2⟩ := h
    exact FzL.cons h1 (FzL.eraseIdx n h2)
theorem FzL.set {W : Wd} {H : Hp} : ∀ {xs : List D} {vs : List V} (n : Nat) {d : D} {v : V}, FzL S W H xs vs → Fz S W H d v → FzL S W H (xs.set n d) (vs.set n v)
  | [], vs, n, _, _, h, _ => by simp only [FzL] at h; subst h; exact FzL.nil
  | d :: ds, vs, 0, _, _, h, q => by
    simp only [FzL] at h
    obtain ⟨v, r, rfl, h1, h2⟩ := h
    exact FzL.cons q h2
  | d :: ds, vs, n + 1, _, _, h, q => by
    simp only [FzL] at h
    obtain ⟨v, r, rfl, h1, h2⟩ := h
    exact FzL.cons h1 (FzL.set n h2 q)
theorem mut_pop : PrMut S rPop mPop := by
  intro W H xs ds ys d l vs us Q hH la f1 hp q
  unfold mPop at hp
  split at hp
  · obtain ⟨x, hx, e1⟩ := map_some hp
    cases e1
    obtain ⟨v, hv, fv⟩ := la.get hx
    rw [la.length] at hv
    exact ⟨l, vs, v, rfl, f1.nil', hH, hv, q _ _ la.dropLast fv⟩
  · cases hp
def mPopAt : Mut := fun xs ds => match ds with
  | [.int i] => if (decide (-(2 ^ 63) ≤ i) && decide (i < 2 ^ 63)) = true then (seqIndex? i xs.length).bind fun k => (xs[k]?).map fun d => (xs.eraseIdx k, d) else none
  | _ => none
theorem mut_popAt : PrMut S rPopAt mPopAt := by
  intro W H xs ds ys d l vs us Q hH la f1 hp q
  unfold mPopAt at hp
  split at hp
  · split at hp
    · rename_i i hc
      simp only [Bool.and_eq_true, decide_eq_true_eq] at hc
      cases hk : seqIndex? i xs.length with
      | none => rw [hk] at hp; cases hp
      | some k =>
        rw [hk, Option.bind_some] at hp
        obtain ⟨x, hx, e1⟩ := map_some hp
        cases e1
        obtain ⟨v, hv, fv⟩ := la.get hx
        rw [f1.ints1]
        rw [la.length] at hk
        exact ⟨l, vs, i, k, v, rfl, rfl, hH, hc.1, hc.2, hk, hv, q _ _ (la.eraseIdx k) fv⟩
    · cases hp
  · cases hp

/-! ### x[i] = v -/
def putAt (i : Nat) (dk dv : D) (e : Env') (M : Sto) : RoS := match dk with
  | .int k => match e[i]? with
    | some (some (true, .lst xs)) => match ixN xs.length k with
      | some j => some (.nx, e.set i (some (true, .lst (xs.set j dv))), M)
      | none => none
    | some (some (false, .rf n)) => match M[n]? with
      | some (.lst xs) => match ixN xs.length k with
        | some j => some (.nx, e, M.set n (.lst (xs.set j dv)))
        | none => none
      | _ => none
    | _ => none
  | _ => none
def ssPut (f : Sm) (i : Nat) (g : Sm) : SmS := fun e M => bindES (f e M) fun _ dv e1 M1 => match pk e1 i with
  | none => none
  | some _ => bindES (g e1 M1) fun _ dk e2 M2 => putAt i dk dv e2 M2
theorem KS.bindEF {W : Wd} {e : Env'} {σ : L2.St} {H : Hp} {r : Ro} {k : Bool → EV.D → Env' → Sto → RoS} {D : Ends} {Q' : VK} (h : KS S w W e σ H (bindES r k) D)
    (c : ∀ own d e1 M1 W1 H1 v, Rel S W1 σ H1 e1 M1 → Post W e σ H W1 e1 σ H1 → Fz S W1 H1 d v → KS S w W1 e1 σ H1 (k own d e1 M1) D → Q' v H1) : KE S w W e σ H r Q' := by
  refine KS.bindE h fun own d e1 M1 W1 H1 v r1 p1 q1 k1 => ?_
  obtain ⟨W2, r2, p2, f2⟩ := r1.res_add p1 q1
  exact c own d e1 M1 W2 H1 v r2 p2 f2 (k1.shift p2)
theorem put_of {i : Nat} {D : Ends} {σ : L2.St} {H : Hp} (z : TSf S w (ssPut f i g) D σ H) : tAsg (TEf S w f) (gSub (tVar i) (TEf S w g) rSetL) D σ H := by
  obtain ⟨W, e, M, r0, k⟩ := z
  refine ⟨W, e, M, r0, KS.bindEF k fun own dv e1 M1 W1 H1 v r1 p1 f1 k1 => ?_⟩
  split at k1
  · exact k1.elim
  rename_i d0 h0
  obtain ⟨u, hu, _⟩ := r1.pk h0
  refine ⟨u, hu, W1, e1, M1, r1, KS.bindEF k1 fun own2 dk e2 M2 W2 H2 y r2 p2 f2 k2 => ?_⟩
  have fv := f1.stays (p2.stays r1)
  unfold putAt at k2
  split at k2
  · rename_i kk
    simp only [Fz] at f2
    subst f2
    split at k2
    · rename_i xs h1
      split at k2
      · rename_i j hj
        obtain ⟨a, ha, vs, hH, la⟩ := r2.ow i _ h1
        rw [hu] at ha
        cases ha
        have nf : ¬ W2.F a := fun q => (r2.fr a q).2.2 ⟨i, _, h1, hu⟩
        obtain ⟨r3, p3⟩ := r2.upd_own (o := .lst (vs.set j v)) (d' := .lst (xs.set j dv)) h1 hu ⟨_, upd_same, (la.set j fv).stays (Stays.put nf)⟩
        exact ⟨a, vs, kk, j, rfl, rfl, hH, by rw [← la.length]; exact hj, k2 W2 _ σ r3 p3⟩
      · exact k2.elim
    · rename_i n h1
      split at k2
      · rename_i xs hx
        split at k2
        · rename_i j hj
          obtain ⟨v2, ha, fv2⟩ := r2.sh i _ h1
          rw [hu] at ha
          cases ha
          simp only [Fz] at fv2
          obtain ⟨a, hr, rfl⟩ := fv2
          obtain ⟨a', hr', vs, hH, la⟩ := r2.st n _ hx
          rw [hr] at hr'
          cases hr'
          have nf : ¬ W2.F a := fun q => (r2.fr a q).2.1 (List.mem_of_getElem? hr)
          obtain ⟨r3, p3⟩ := r2.upd_sto (u := .lst (vs.set j v)) (o' := .lst (xs.set j dv)) hx hr ⟨_, upd_same, (la.set j fv).stays (Stays.put nf)⟩
          exact ⟨a, vs, kk, j, rfl, rfl, hH, by rw [← la.length]; exact hj, k2 W2 _ σ r3 p3⟩
        · exact k2.elim
      · exact k2.elim
    · exact k2.elim
  · exact k2.elim
theorem ss_put {i : Nat} {x : Str} {ps : Pos} (hN : X.N[i]? = some x) (hv : Vis X.env.scope x) (hd : (x == ("__debug__" : Str)) = false) (hcd : (x == ("__classdict__" : Str)) = false) (ha : PE X a (TEf S w f)) (hb : PE X b (TEf S w g))
    (hasg : ∀ v, assign (.Subscript (.Name x p) b ps) X.env v = (do
      let ov ← holding [v] (eval (.Name x p) X.env)
      let iv ← holding [v, ov] (eval b X.env)
      standAt ps
      holding [v, ov, iv] (setItem ov iv v)
      release [v, ov, iv] []))
    (hs : swapsWithSole [.Subscript (.Name x p) b ps] a pos.line X.env = pure false) (hw : swappedStores [.Subscript (.Name x p) b ps] a X.env = pure none) (h1 : (assignEach [.Subscript (.Name x p) b ps] X.env).map (·.2) = [assign (.Subscript (.Name x p) b ps) X.env]) :
    PS X (.Assign [.Subscript (.Name x p) b ps] a pos) (TSf S w (ssPut f i g)) :=
  psI (ps_asg ha (pg_sub (pe_var hN hv hd hcd) hb set_list hasg) hs hw h1) fun _ _ _ z => put_of z
end
end EV

/-! EvK: built-in functions and methods, one by one. -/
namespace EV
open PySem PySem.Spec PyProof.Rows L2
open TL (spl numL numL_lt numL_step tl tl_num map_tl_inj split_spl kind_ok joinL join_eq ext_tl tl_join)

section
variable {S : Sg} {K : PySem.W.Frag}
/-! ### len, tuple, list, all, any, sum, int, str -/
def pLen (ns : List Int) : List D → Option (Bool × D)
  | [.tup xs] => some (false, .int xs.length)
  | [.lst xs] => some (false, .int xs.length)
  | [.str x] => if szOk (tx x).length = true then some (false, .int (tx x).length) else none
  | [.scr] => some (false, .int ns.length)
  | _ => none
def rLen (K : PySem.W.Frag) : List V → Hp → VK → Prop := fun xs H Q => (∃ p ys, xs = [.ref p] ∧ (SqL K H p ys ∨ SqT K H p ys) ∧ Q (.int ys.length) H) ∨ ∃ z, xs = [.str z] ∧ z.length ≤ sizeLine ∧ Q (.int z.length) H
theorem call_lenF {X : Cx} : CallR X (.builtin "len") (rLen X.K) := CallR.or call_len_seq call_len_str
theorem len_of {W : Wd} {σ : L2.St} {H : Hp} {e : Env'} {M : Sto} {d0 d : D} {v : V} {own : Bool} {Q : VK} (r : Rel S W σ H e M) (h : Rb S W H d0 v) (hp : pLen S.ns [d0] = some (own, d)) (g : Gv S W e σ H M own d Q) : rLen S.K [v] H Q := by
  unfold pLen at hp
  split at hp
  · rename_i xs hd
    cases hd
    cases hp
    obtain ⟨a, vs, rfl, ha, la, _⟩ := h.tup
    exact .inl ⟨a, vs, rfl, .inr ha, g.now r (by simp only [Fz, la.length])⟩
  · rename_i xs hd
    cases hd
    cases hp
    obtain ⟨a, vs, rfl, ha, la⟩ := h.lst
    exact .inl ⟨a, vs, rfl, .inl (SqL.of ha), g.now r (by simp only [Fz, la.length])⟩
  · rename_i x hd
    cases hd
    split at hp
    · rename_i hc
      cases hp
      have e1 : x.length = (tx x).length := by simp [Str.length, tx]
      exact .inr ⟨x, by rw [h.str], by rw [e1]; exact szOk_of hc, g.now r (by simp only [Fz, e1])⟩
    · cases hp
  · rename_i hd
    cases hd
    cases hp
    obtain ⟨rfl, hs⟩ := h.scr
    exact .inl ⟨S.sa, _, rfl, .inl hs, g.now r (by simp only [Fz, List.length_map])⟩
  · cases hp
theorem prn_len (hK : K = S.K) : PrN S (rLen K) (pLen S.ns) := by
  intro W σ H e M ds vs own d Q r l hp g
  subst hK
  have : ∃ d0, ds = [d0] := by
    unfold pLen at hp
    split at hp
    · exact ⟨_, rfl⟩
    · exact ⟨_, rfl⟩
    · exact ⟨_, rfl⟩
    · exact ⟨_, rfl⟩
    · cases hp
  obtain ⟨d0, rfl⟩ := this
  obtain ⟨v, rfl, fv⟩ := l.one
  exact len_of r (.inl fv) hp g
def pTuple : List D → Option (Bool × D)
  | [.tup xs] => some (false, .tup xs)
  | [.lst xs] => some (false, .tup xs)
  | _ => none
theorem prn_tuple (hK : K = S.K) : PrN S (fun xs H Q => ∃ p ys, xs = [.ref p] ∧ ((SqL K H p ys ∧ ∀ l, H l = none → Q (.ref l) (upd H l (.tup ys))) ∨ (SqT K H p ys ∧ Q (.ref p) H))) pTuple := by
  intro W σ H e M ds vs own d Q r l hp g
  subst hK
  unfold pTuple at hp
  split at hp
  · cases hp
    obtain ⟨v, rfl, fv⟩ := l.one
    obtain ⟨a, us, rfl, ha, la, fa⟩ := (Rb.tup (.inl fv))
    exact ⟨a, us, rfl, .inr ⟨ha, g.now r fa⟩⟩
  · cases hp
    obtain ⟨v, rfl, fv⟩ := l.one
    obtain ⟨a, us, rfl, ha, la⟩ := (Rb.lst (.inl fv))
    exact ⟨a, us, rfl, .inl ⟨SqL.of ha, g.tup r la⟩⟩
  · cases hp
def pList : List D → Option (Bool × D)
  | [.tup xs] => some (true, .lst xs)
  | [.lst xs] => some (true, .lst xs)
  | _ => none
theorem prn_list (hK : K = S.K) : PrN S (fun xs H Q => ∃ p ys, xs = [.ref p] ∧ (SqL K H p ys ∨ SqT K H p ys) ∧ ∀ l, H l = none → Q (.ref l) (upd H l (.lst ys))) pList := by
  intro W σ H e M ds vs own d Q r l hp g
  subst hK
  unfold pList at hp
  split at hp
  · cases hp
    obtain ⟨v, rfl, fv⟩ := l.one
    obtain ⟨a, us, rfl, ha, la, _⟩ := (Rb.tup (.inl fv))
    exact ⟨a, us, rfl, .inr ha, g.lst r la⟩
  · cases hp
    obtain ⟨v, rfl, fv⟩ := l.one
    obtain ⟨a, us, rfl, ha, la⟩ := (Rb.lst (.inl fv))
    exact ⟨a, us, rfl, .inl (SqL.of ha), g.lst r la⟩
  · cases hp
def blsOf : List D → Option (List Bool)
  | [] => some []
  | .bl b :: r => (blsOf r).map (b :: ·)
  | _ => none
def intsOf : List D → Option (List Int)
  | [] => some []
  | .int b :: r => (intsOf r).map (b :: ·)
  | _ => none
def strsOf : List D → Option (List Str)
  | [] => some []
  | .str b :: r => (strsOf r).map (b :: ·)
  | _ => none
theorem FzL.bls {W : Wd} {H : Hp} : ∀ {xs : List D} {vs : List V} {bs : List Bool}, blsOf xs = some bs → FzL S W H xs vs → vs = bs.map V.bl
  | [], _, _, h, l => by simp only [blsOf] at h; cases h; rw [l.nil']; rfl
  | d :: ds, vs, bs, h, l => by
    cases d with
    | bl b =>
      simp only [blsOf] at h
      obtain ⟨cs, h1, rfl⟩ := map_some h
      simp only [FzL, Fz] at l
      obtain ⟨v, r, rfl, rfl, l2⟩ := l
      rw [FzL.bls h1 l2]; rfl
    | _ => simp [blsOf] at h
theorem FzL.ints {W : Wd} {H : Hp} : ∀ {xs : List D} {vs : List V} {bs : List Int}, intsOf xs = some bs → FzL S W H xs vs → vs = bs.map V.int
  | [], _, _, h, l => by simp only [intsOf] at h; cases h; rw [l.nil']; rfl
  | d :: ds, vs, bs, h, l => by
    cases d with
    | int b =>
      simp only [intsOf] at h
      obtain ⟨cs, h1, rfl⟩ := map_some h
      simp only [FzL, Fz] at l
      obtain ⟨v, r, rfl, rfl, l2⟩ := l
      rw [FzL.ints h1 l2]; rfl
    | _ => simp [intsOf] at h
theorem FzL.strs {W : Wd} {H : Hp} : ∀ {xs : List D} {vs : List V} {bs : List Str}, strsOf xs = some bs → FzL S W H xs vs → vs = bs.map V.str
  | [], _, _, h, l => by simp only [strsOf] at h; cases h; rw [l.nil']; rfl
  | d :: ds, vs, bs, h, l => by
    cases d with
    | str b =>
      simp only [strsOf] at h
      obtain ⟨cs, h1, rfl⟩ := map_some h
      simp only [FzL, Fz] at l
      obtain ⟨v, r, rfl, rfl, l2⟩ := l
      rw [FzL.strs h1 l2]; rfl
    | _ => simp [strsOf] at h
theorem FzL.ofStrs {W : Wd} {H : Hp} : ∀ {bs : List Str}, FzL S W H (bs.map D.str) (bs.map V.str)
  | [] => FzL.nil
  | b :: bs => FzL.cons (by simp only [Fz]) FzL.ofStrs
theorem FzL.ofInts {W : Wd} {H : Hp} : ∀ {bs : List Int}, FzL S W H (bs.map D.int) (bs.map V.int)
  | [] => FzL.nil
  | b :: bs => FzL.cons (by simp only [Fz]) FzL.ofInts
def pAll : List D → Option (Bool × D)
  | [.lst xs] => (blsOf xs).map fun bs => (false, .bl (bs.all id))
  | _ => none
def pAny : List D → Option (Bool × D)
  | [.lst xs] => (blsOf xs).map fun bs => (false, .bl (bs.any id))
  | _ => none
def pSum : List D → Option (Bool × D)
  | [.lst xs] => (intsOf xs).map fun bs => (false, .int bs.sum)
  | _ => none
theorem prn_all (hK : K = S.K) : PrN S (rAll K) pAll := by
  intro W σ H e M ds vs own d Q r l hp g
  subst hK
  unfold pAll at hp
  split at hp
  · obtain ⟨bs, hb, e1⟩ := map_some hp
    cases e1
    obtain ⟨v, rfl, fv⟩ := l.one
    obtain ⟨a, us, rfl, ha, la⟩ := (Rb.lst (.inl fv))
    exact ⟨a, bs, rfl, by rw [← la.bls hb]; exact SqL.of ha, g.now r (by simp only [Fz])⟩
  · cases hp
theorem prn_any (hK : K = S.K) : PrN S (rAny K) pAny := by
  intro W σ H e M ds vs own d Q r l hp g
  subst hK
  unfold pAny at hp
  split at hp
  · obtain ⟨bs, hb, e1⟩ := map_some hp
    cases e1
    obtain ⟨v, rfl, fv⟩ := l.one
    obtain ⟨a, us, rfl, ha, la⟩ := (Rb.lst (.inl fv))
    exact ⟨a, bs, rfl, by rw [← la.bls hb]; exact SqL.of ha, g.now r (by simp only [Fz])⟩
  · cases hp
theorem prn_sum (hK : K = S.K) : PrN S (rSum K) pSum := by
  intro W σ H e M ds vs own d Q r l hp g
  subst hK
  unfold pSum at hp
  split at hp
  · obtain ⟨bs, hb, e1⟩ := map_some hp
    cases e1
    obtain ⟨v, rfl, fv⟩ := l.one
    obtain ⟨a, us, rfl, ha, la⟩ := (Rb.lst (.inl fv))
    exact ⟨a, bs, rfl, by rw [← la.ints hb]; exact SqL.of ha, g.now r (by simp only [Fz])⟩
  · cases hp
def digB (l : List Nat) : Bool := l.all (fun c => Nat.ble 48 c && Nat.ble c 57) && !l.isEmpty && Nat.ble l.length 640
def digV (l : List Nat) : Nat := l.foldl (fun acc c => acc * 10 + (c - 48)) 0
def pInt : List D → Option (Bool × D)
  | [.int i] => some (false, .int i)
  | [.bl k] => some (false, .int (if k then 1 else 0))
  | [.str x] => if digB (tx x) = true then some (false, .int (digV (tx x))) else none
  | _ => none
def rInt : List V → Hp → VK → Prop := fun xs H Q => ((∃ i, xs = [.int i] ∧ Q (.int i) H) ∨ ∃ k, xs = [.bl k] ∧ Q (.int (if k then 1 else 0)) H) ∨ (∃ a n, xs = [.str a] ∧ PySem.intText? a = some n ∧ a.length ≤ 640 ∧ Q (.int n) H)
theorem call_intF {X : Cx} : CallR X (.type "int") rInt := CallR.or call_int1 call_int_str
theorem prn_int : PrN S rInt pInt := by
  intro W σ H e M ds vs own d Q r l hp g
  unfold pInt at hp
  split at hp
  · cases hp
    obtain ⟨v, rfl, fv⟩ := l.one
    simp only [Fz] at fv
    exact .inl (.inl ⟨_, by rw [fv], g.now r (by simp only [Fz])⟩)
  · cases hp
    obtain ⟨v, rfl, fv⟩ := l.one
    simp only [Fz] at fv
    exact .inl (.inr ⟨_, by rw [fv], g.now r (by simp only [Fz])⟩)
  · split at hp
    · rename_i x hc
      cases hp
      obtain ⟨v, rfl, fv⟩ := l.one
      simp only [Fz] at fv
      simp only [digB, Bool.and_eq_true, List.all_eq_true, Bool.not_eq_true', Nat.ble_eq] at hc
      have e1 : x.length = (tx x).length := by simp [Str.length, tx]
      have ne : x.cps.toList ≠ [] := fun z => by
        have h2 := hc.1.2
        simp only [tx] at h2
        rw [z] at h2
        exact absurd h2 (by decide)
      have hl : x.length ≤ 640 := by rw [e1]; exact hc.2
      exact .inr ⟨x, _, by rw [fv], intText_digits (fun c h => hc.1.1 c h) ne (by omega), hl, g.now r (by simp only [Fz]; rfl)⟩
    · cases hp
  · cases hp
/-- the signs of a number -/
def numS : Nat → Nat → List Nat → List Nat
  | 0, _, acc => acc
  | f + 1, n, acc => if n < 10 then (48 + n) :: acc else numS f (n / 10) ((48 + n % 10) :: acc)
def pStr : List D → Option (Bool × D)
  | [.int i] => if (decide (0 ≤ i) && decide (i < 100000)) = true then some (false, .str (mkS (numS 8 i.toNat []))) else none
  | _ => none
theorem numS_eq : ∀ (f n : Nat) (acc : List Nat), n < 10 ^ f → 0 < f → numS f n acc = numL n ++ acc
  | 0, _, _, _, h => absurd h (Nat.lt_irrefl 0)
  | f + 1, n, acc, h, _ => by
    unfold numS
    by_cases hn : n < 10
    · rw [if_pos hn, numL_lt hn]; rfl
    · rw [if_neg hn]
      have hf : 0 < f := by
        rcases f with _ | f
        · simp at h; omega
        · omega
      have : n / 10 < 10 ^ f := by
        have : n < 10 ^ f * 10 := by rw [← Nat.pow_succ]; exact h
        omega
      rw [numS_eq f (n / 10) _ this hf, numL_step (n := n) (by omega), List.append_assoc]
      rfl
theorem prn_str : PrN S (fun xs H Q => ∃ i, xs = [.int i] ∧ i.natAbs.log2 < 1920 ∧ Q (.str (toString i)) H) pStr := by
  intro W σ H e M ds vs own d Q r l hp g
  unfold pStr at hp
  split at hp
  · split at hp
    · rename_i i hc
      cases hp
      obtain ⟨v, rfl, fv⟩ := l.one
      simp only [Fz] at fv
      simp only [Bool.and_eq_true, decide_eq_true_eq] at hc
      obtain ⟨n, rfl⟩ := Int.eq_ofNat_of_zero_le hc.1
      refine ⟨_, by rw [fv], ?_, g.now r ?_⟩
      · have h1 : n < 2 ^ 1920 := Nat.lt_of_lt_of_le (show n < 2 ^ 17 by omega) (Nat.pow_le_pow_right (by decide) (by decide))
        by_cases h0 : n = 0
        · subst h0; decide
        · exact (Nat.log2_lt h0).mpr h1
      · simp only [Fz]
        congr 1
        refine str_ext ?_
        show tl (Str.ofString (toString ((n : Nat) : Int))) = numS 8 n []
        rw [tl_num, numS_eq 8 n [] (by omega) (by decide), List.append_nil]
    · cases hp
  · cases hp
end

/-! ### isinstance -/
def tyN : D → Option String
  | .non => some "NoneType"
  | .bl _ => some "bool"
  | .int _ => some "int"
  | .str _ => some "str"
  | .tup _ => some "tuple"
  | .lst _ => some "list"
  | _ => none
theorem SqT.tyx {K : PySem.W.Frag} {H : Hp} {a : Addr} {vs : List V} (h : SqT K H a vs) : TyX K H (.ref a) (.type "tuple") := by
  rcases h with (h | ⟨o, h⟩) | ⟨o, its, n, h1, h2, _⟩
  · exact .base (.tup h)
  · exact .fTuple h
  · exact .kTuple h1 h2
theorem Fz.tyx {S : Sg} {W : Wd} {H : Hp} {d : D} {v : V} {T : String} (h : Fz S W H d v) (ht : tyN d = some T) : TyX S.K H v (.type T) := by
  cases d with
  | non => cases ht; simp only [Fz] at h; subst h; exact .base .non
  | bl b => cases ht; simp only [Fz] at h; subst h; exact .base (.bl b)
  | int b => cases ht; simp only [Fz] at h; subst h; exact .base (.int b)
  | str b => cases ht; simp only [Fz] at h; subst h; exact .base (.str b)
  | tup xs =>
    cases ht
    obtain ⟨a, us, e, ha, la, _⟩ := (Rb.tup (.inl h))
    subst e
    exact SqT.tyx ha
  | lst xs =>
    cases ht
    obtain ⟨a, us, e, ha, la⟩ := (Rb.lst (.inl h))
    subst e
    exact .base (.lst ha)
  | _ => cases ht
/-- isinstance(d, T), T a built-in type; its answer by a table -/
def isiB (T t : String) : Option Bool := kitB t T
/-- by kind: int, bool, str, tuple, list -/
inductive Ty where
  | int | bl | str | tup | lst
def Ty.nm : Ty → String
  | .int => "int"
  | .bl => "bool"
  | .str => "str"
  | .tup => "tuple"
  | .lst => "list"
def isT : Ty → D → Option Bool
  | .int, .bl _ => some true
  | .int, .int _ => some true
  | .bl, .bl _ => some true
  | .str, .str _ => some true
  | .tup, .tup _ => some true
  | .lst, .lst _ => some true
  | _, .non => some false
  | _, .bl _ => some false
  | _, .int _ => some false
  | _, .str _ => some false
  | _, .tup _ => some false
  | _, .lst _ => some false
  | _, _ => none
theorem isT_ok {T : Ty} {d : D} {b : Bool} (h : isT T d = some b) : ∃ t, tyN d = some t ∧ kitB t T.nm = some b := by
  cases T <;> cases d <;> simp only [isT] at h <;> first
    | (cases h; done)
    | (cases h; exact ⟨_, rfl, by decide +kernel⟩)
section
variable {S : Sg} {w : XK} {X : Cx} {pos apos p p2 : Pos} {a b c : Expr} {f g h : Sm} {t : SmA} {es : List Expr}
def pIs1 (T : Ty) (d : D) : Option (Bool × D) := (isT T d).map fun b => (false, .bl b)
theorem isi_of {T : Ty} {σ : L2.St} {H : Hp} {Q : VK} (z : TEf S w (smOp1 (pIs1 T) f) σ H Q) : tCB (rIsi S.K) (tCons (TEf S w f) (tCons (tC (.ty T.nm)) tNil)) σ H Q := by
  obtain ⟨W, e, M, r0, k⟩ := z
  refine ⟨W, e, M, r0, KE.bindF k fun own d e1 M1 W1 H1 v r1 f1 k1 => ?_⟩
  obtain ⟨own2, d2, e2, gv⟩ := KE.out1 k1
  obtain ⟨b, hb, e3⟩ := map_some e2
  cases e3
  obtain ⟨t, h1, h2⟩ := isT_ok hb
  exact ⟨v, .ty T.nm, .type t, .type T.nm, b, rfl, .ty _, f1.tyx h1, kit_ty h2, gv.now r1 (by simp only [Fz])⟩
theorem se_isi {T : Ty} {x : Str} (hK : X.K = S.K) (ha : PE X a (TEf S w f)) (hT : PE X (.Name x p2) (tC (.ty T.nm))) (hg : Gl X "isinstance") (hm : X.mg "isinstance" = none)
    (he : starEach [a, .Name x p2] X.env = (false, eval a X.env) :: starEach [.Name x p2] X.env) (hpl : (backTo pos (starEach [.Name x p2] X.env)).any (·.1) = false) :
    PE X (.Call (.Name "isinstance" p) [a, .Name x p2] [] pos) (TEf S w (smOp1 (pIs1 T) f)) :=
  peI (pe_callB call_isi hg hm PyProof.Rows.boot_isinstance (pa_cons ha (pa_cons hT pa_nil rfl) he) (by decide) (by decide) he hpl) fun _ _ _ z => by rw [hK]; exact isi_of z

/-! ### methods of texts -/
def splS (x y : Str) : List Str := (spl (tx y) 0 [] (tx x)).map mkS
def pSplit : D → D → Option (Bool × D)
  | .str x, .str y => if ((tx y).all (fun c => Nat.blt c 256) && !(tx y).isEmpty && szOk ((tx x).length + 2)) = true then some (true, .lst ((splS x y).map D.str)) else none
  | _, _ => none
/-- a method of one argument, of a text -/
def PrM1 (S : Sg) (r : V → List V → Hp → VK → Prop) (p : D → D → Option (Bool × D)) : Prop := ∀ W σ H e M d1 d2 v1 v2 own d Q, Rel S W σ H e M → Fz S W H d1 v1 → Fz S W H d2 v2 → p d1 d2 = some (own, d) → Gv S W e σ H M own d Q → r v1 [v2] H Q
def strOnly (p : D → D → Option (Bool × D)) : D → D → Option (Bool × D) := fun a b => match a with
  | .str _ => p a b
  | _ => none
def smM1 (p : D → D → Option (Bool × D)) (f g : Sm) : Sm := fun e M => bindS (f e M) fun _ d1 e1 M1 => match d1 with
  | .str _ => bindS (g e1 M1) fun _ d2 e2 M2 => out1 (p d1 d2) e2 M2
  | _ => none
theorem m1_of {r : V → List V → Hp → VK → Prop} {pp : D → D → Option (Bool × D)} (hp : PrM1 S r pp) {σ : L2.St} {H : Hp} {Q : VK} (z : TEf S w (smM1 pp f g) σ H Q) : tM1 r (TEf S w f) (TEf S w g) σ H Q := by
  obtain ⟨W, e, M, r0, k⟩ := z
  refine ⟨W, e, M, r0, KE.bindF k fun own d1 e1 M1 W1 H1 v1 r1 f1 k1 => ?_⟩
  cases d1 with
  | str x =>
    have f1' := f1
    simp only [Fz] at f1'
    refine ⟨⟨x, f1'⟩, W1, e1, M1, r1, KE.bind k1 fun own2 d2 e2 M2 W2 H2 v2 r2 p2 q2 k2 => ?_⟩
    obtain ⟨W3, r3, p3, f3⟩ := r2.res_add p2 q2
    obtain ⟨own3, d, e3, gv⟩ := KE.out1 (k2.shift p3)
    exact hp W3 σ H2 e2 M2 _ d2 v1 v2 own3 d Q r3 (f1.stays (p3.stays r1)) f3 e3 gv
  | _ => exact k1.elim
theorem se_m1 {id : String} {name : Str} {r : V → List V → Hp → VK → Prop} {pp : D → D → Option (Bool × D)} (hp : PrM1 S r pp) (slot : Slot "str" name id) (ty : typeOf (.builtin id) = pure (.type "method_descriptor")) (rule : MtR X id r) (ha : PE X a (TEf S w f)) (hb : PE X b (TEf S w g))
    (hs : starEach [b] X.env = [(false, eval b X.env)]) (hbase : attributeBase a name X.env (eval a X.env) = eval a X.env) (hline : (apos.endLine == pos.line) = true) : PE X (.Call (.Attribute a name apos) [b] [] pos) (TEf S w (smM1 pp f g)) :=
  peI (pe_m1 slot ty rule ha hb hs hbase hline) fun _ _ _ z => m1_of hp z
theorem prm_split : PrM1 S (fun x xs H Q => ∃ a b, x = .str a ∧ xs = [.str b] ∧ (b.length == 0) = false ∧ a.length + 2 ≤ sizeLine ∧ rNewStrs (Txt.split a b) H Q) pSplit := by
  intro W σ H e M d1 d2 v1 v2 own d Q r h1 h2 hp g
  unfold pSplit at hp
  split at hp
  · split at hp
    · rename_i x y hc
      cases hp
      simp only [Fz] at h1 h2
      simp only [Bool.and_eq_true] at hc
      have ne : tx y ≠ [] := fun z => by rw [z] at hc; simp at hc
      have e1 : ∀ z : Str, z.length = (tx z).length := fun z => by simp [Str.length, tx]
      have h256 : y.cps.all (· < 256) = true := by
        rw [← Array.all_toList]
        refine List.all_eq_true.mpr fun c hcm => ?_
        have := List.all_eq_true.mp hc.1.1 c hcm
        simpa [Nat.blt_eq] using this
      refine ⟨x, y, h1, by rw [h2], ?_, by rw [e1]; exact szOk_of hc.2, fun p hp => ?_⟩
      · rw [e1]
        cases hy : tx y with
        | nil => exact absurd hy ne
        | cons _ _ => rfl
      · have : Txt.split x y = splS x y := by
          refine map_tl_inj ?_
          rw [split_spl x y ne (kind_ok h256)]
          unfold splS
          rw [List.map_map]
          exact (List.map_id'' (fun _ => rfl) _).symm
        rw [this]
        exact g.lst r FzL.ofStrs p hp
    · cases hp
  · cases hp
def one1 : List Nat → Option Nat
  | [c] => some c
  | _ => none
theorem one1_of {l : List Nat} {c : Nat} (h : one1 l = some c) : l = [c] := by
  unfold one1 at h
  split at h
  · cases h; rfl
  · cases h
def countN (c : Nat) : List Nat → Nat
  | [] => 0
  | x :: r => if Nat.beq x c = true then countN c r + 1 else countN c r
def pCountS : D → D → Option (Bool × D)
  | .str x, .str y => (one1 (tx y)).map fun c => (false, .int (countN c (tx x)))
  | _, _ => none
theorem cnt_countN (c : Nat) : ∀ l : List Nat, cnt c l = (countN c l : Int)
  | [] => rfl
  | x :: r => by
    rw [cnt_cons, cnt_countN c r, show countN c (x :: r) = if Nat.beq x c = true then countN c r + 1 else countN c r from rfl]
    by_cases h : x = c
    · rw [if_pos h, if_pos (by subst h; exact Nat.beq_refl x)]; omega
    · rw [if_neg h, if_neg (fun z => h (Nat.eq_of_beq_eq_true z))]; omega
theorem prm_countS : PrM1 S (fun x xs H Q => ∃ a b, x = .str a ∧ xs = [.str b] ∧ Q (.int (Txt.count a b)) H) pCountS := by
  intro W σ H e M d1 d2 v1 v2 own d Q r h1 h2 hp g
  unfold pCountS at hp
  split at hp
  · rename_i x y
    cases hy : one1 (tx y) with
    | some c =>
      rw [hy] at hp
      cases hp
      replace hy := one1_of hy
      simp only [Fz] at h1 h2
      have ey : y = ⟨#[c]⟩ := str_ext (by show tx y = [c]; exact hy)
      subst ey
      refine ⟨x, _, h1, by rw [h2], g.now r ?_⟩
      simp only [Fz]
      have : Txt.count x ⟨#[c]⟩ = cnt c x.cps.toList := count_is x c
      rw [this, cnt_countN]
      rfl
    | none => rw [hy] at hp; cases hp
  · cases hp
def idxN (c : Nat) : List Nat → Option Nat
  | [] => none
  | x :: r => if Nat.beq x c = true then some 0 else (idxN c r).map (· + 1)
def pIndexS : D → D → Option (Bool × D)
  | .str x, .str y => (one1 (tx y)).bind fun c => (idxN c (tx x)).map fun (n : Nat) => (false, .int (n : Int))
  | _, _ => none
theorem idxN_some {c : Nat} : ∀ {l : List Nat} {n : Nat}, idxN c l = some n → l[n]? = some c ∧ ∀ k, k < n → l[k]? ≠ some c
  | [], _, h => by cases h
  | x :: r, n, h => by
    unfold idxN at h
    split at h
    · rename_i hx
      cases h
      exact ⟨by rw [Nat.eq_of_beq_eq_true hx]; rfl, fun k hk => absurd hk (Nat.not_lt_zero _)⟩
    · rename_i hx
      obtain ⟨m, h1, rfl⟩ := map_some h
      obtain ⟨h2, h3⟩ := idxN_some h1
      refine ⟨by simpa using h2, fun k hk => ?_⟩
      cases k with
      | zero => intro z; simp at z; subst z; exact hx (Nat.beq_refl _)
      | succ k => simpa using h3 k (by omega)
theorem prm_indexS : PrM1 S (fun x xs H Q => ∃ a b i rest, x = .str a ∧ xs = [.str b] ∧ Builtin.Str.occurrences a b 0 a.length 1 = i :: rest ∧ Q (.int (i : Nat)) H) pIndexS := by
  intro W σ H e M d1 d2 v1 v2 own d Q r h1 h2 hp g
  unfold pIndexS at hp
  split at hp
  · rename_i x y
    cases hy : one1 (tx y) with
    | some c =>
      rw [hy, Option.bind_some] at hp
      replace hy := one1_of hy
      obtain ⟨n, hn, e1⟩ := map_some hp
      cases e1
      simp only [Fz] at h1 h2
      have ey : y = ⟨#[c]⟩ := str_ext (by show tx y = [c]; exact hy)
      subst ey
      obtain ⟨i1, i2⟩ := idxN_some hn
      rcases PySem.StrLaws.occ_head x ⟨#[c]⟩ 1 (Nat.le_refl 1) with ⟨_, no⟩ | ⟨i, rest, he, at_, no⟩
      · exact absurd ((PySem.StrLaws.subAt_one x c n).mpr i1) (no n)
      · have hi : x.cps.toList[i]? = some c := (PySem.StrLaws.subAt_one x c i).mp at_
        have hin : i = n := by
          rcases Nat.lt_trichotomy i n with z | z | z
          · exact absurd hi (i2 i z)
          · exact z
          · exact absurd ((PySem.StrLaws.subAt_one x c n).mpr i1) (no n z)
        subst hin
        exact ⟨x, _, i, rest, h1, by rw [h2], he, g.now r (by simp only [Fz])⟩
    | none => rw [hy] at hp; cases hp
  · cases hp
def joinS (y : Str) (xs : List Str) : Str := mkS (joinL (tx y) (xs.map tx))
def lenSum : List Str → Nat
  | [] => 0
  | x :: r => (tx x).length + lenSum r
def pJoin : D → D → Option (Bool × D)
  | .str y, .lst xs => match strsOf xs with
    | some ss => if Nat.ble (lenSum ss + ss.length * (tx y).length) 16777216 = true then some (false, .str (joinS y ss)) else none
    | none => none
  | _, _ => none
theorem lenSum_eq : ∀ ss : List Str, lenSum ss = (ss.map (·.length)).sum
  | [] => rfl
  | x :: r => by
    rw [List.map_cons, List.sum_cons, ← lenSum_eq r]
    show (tx x).length + _ = x.length + _
    simp [Str.length, tx]
theorem prm_join (hK : X.K = S.K) : PrM1 S (fun x xs H Q => ∃ a p, ∃ ys : List Str, x = .str a ∧ xs = [.ref p] ∧ (SqL X.K H p (ys.map V.str) ∨ SqT X.K H p (ys.map V.str)) ∧ (ys.map (·.length)).sum + ys.length * a.length ≤ 16777216 ∧ Q (.str (Txt.join a ys)) H) pJoin := by
  intro W σ H e M d1 d2 v1 v2 own d Q r h1 h2 hp g
  unfold pJoin at hp
  split at hp
  · split at hp
    · rename_i y xs _ ss hs
      split at hp
      · rename_i hc
        cases hp
        simp only [Fz] at h1
        obtain ⟨a, us, rfl, ha, la⟩ := (Rb.lst (.inl h2))
        have hu := la.strs hs
        subst hu
        have e1 : y.length = (tx y).length := by simp [Str.length, tx]
        refine ⟨y, a, ss, h1, rfl, .inl (SqL.of ha), by rw [← lenSum_eq, e1]; exact Nat.le_of_ble_eq_true hc, g.now r ?_⟩
        simp only [Fz]
        congr 1
        rw [join_eq]
        refine ext_tl ?_
        rw [tl_join]
        rfl
      · cases hp
    · cases hp
  · cases hp
end
end EV

/-! EvL: enumerate over lists and tuples, walks over texts. -/
namespace EV
open PySem PySem.Spec PyProof.Rows L2

set_option maxHeartbeats 4000000 in
theorem meets_enum1 {v : Value} {o : Obj} {H : Heap → Prop} (B : Begins v o H) :
    Meets (Builtin.«enumerate.__new__» ⟨[.type "enumerate", v], []⟩) (fun _ R s => H s.heap ∧
      R (.ok (.ret (.ref (s.heap.push o).objs.size))) { s with heap := (s.heap.push o).push { cls := .type "enumerate", data := .fields #[.none, .bool false, .ref s.heap.objs.size, rawInt 0, .none, .none] } }) :=
  .of_wp fun P w A R s h => by
    obtain ⟨hp, g, d, tk, os⟩ := s
    obtain ⟨h1, h⟩ := h
    have hsub := sub_enumerate
    have q1 : ∀ {A' : Around} {E Q : Value → Shared → Prop}, Q (.ref hp.objs.size) ⟨hp.push o, g, d, tk, os⟩ → wpAny (model P w) A' (pyIter v) Q E ⟨hp, g, d, tk, os⟩ := fun q => B.iter P w _ _ ⟨hp, g, d, tk, os⟩ _ h1 q
    wp_walk using q1
    refine wpAny_stack_any fun st => wpAny_pure ?_
    split
    · rename_i c _ _ _ _ _
      cases (c == Value.type "enumerate")
      · wp_walk using q1
        exact ⟨_, rfl, h⟩
      · wp_walk using q1
        exact ⟨_, rfl, h⟩
    · wp_walk using q1
      exact ⟨_, rfl, h⟩
section
variable {P : Program} {w : World} {A : Around} {E : Value → Shared → Prop} {s : Shared}
theorem enum1_begins {v : Value} {o : Obj} {H : Heap → Prop} {Q : Value → Shared → Prop} (B : Begins v o H) (h1 : H s.heap)
    (h : ∀ h', IsEnum h' (s.heap.objs.size + 1) s.heap.objs.size 0 .none → h'.get? s.heap.objs.size = some o → (∀ b u, s.heap.get? b = some u → h'.get? b = some u) → Q (.ref (s.heap.objs.size + 1)) { s with heap := h' }) :
    wpAny (model P w) A (call (.type "enumerate") [v]) Q E s := by
  refine callType_new F.called_enumerate (by decide) (F.typeCall_enumerate_1 _) (F.newCall_enumerate_1 _) (fun obj => F.args_object_init_2 obj _) F.entry_enumerate_new (meets_enum1 B) ⟨h1, ?_⟩
  have hz : (s.heap.push o).objs.size = s.heap.objs.size + 1 := Heap.size_push ..
  show _ ∧ _
  rw [hz]
  have he : IsEnum ((s.heap.push o).push { cls := .type "enumerate", data := .fields #[.none, .bool false, .ref s.heap.objs.size, rawInt 0, .none, .none] }) (s.heap.objs.size + 1) s.heap.objs.size 0 .none := by
    have q := Heap.get?_push_size (s.heap.push o) (o := { cls := .type "enumerate", data := .fields #[.none, .bool false, .ref s.heap.objs.size, rawInt 0, .none, .none] }) rfl
    rw [hz] at q; exact q
  exact ⟨⟨_, he, rfl⟩, h _ he (Heap.get?_push_of_some _ (Heap.get?_push_size _ B.free)) fun b u x => Heap.get?_push_of_some _ (Heap.get?_push_of_some _ x)⟩
end

/-- the tuple at a, each item in a new pair -/
def IteT (K : PySem.W.Frag) (a : Addr) : It :=
  ⟨fun i H => ∃ (xs : List V) (x : V), SqT K H a xs ∧ xs[i]? = some x, fun i H v H' => ∃ T x, v = .ref T ∧ H T = none ∧ H' = upd H T (.tup [.int (i : Nat), x]) ∧ ∀ xs, SqT K H a xs → xs[i]? = some x, fun i H => ∃ xs : List V, SqT K H a xs ∧ xs.length ≤ i⟩
theorem turn_enumT {P : Program} {w : World} {K : PySem.W.Frag} {elts : List Expr} {kk : Nat} {tpos : Pos} (a e it : Addr) :
    Turn P w K (.Tuple elts kk tpos) (IteT K a) [e, it] e (fun i h => (∃ old, IsEnum h e it ((i : Nat) : Int) old) ∧ h.IsTupleIter it a i ∧ e ≠ it) where
  mem := by simp
  obj := fun i h st b hb => by
    obtain ⟨⟨old, he⟩, ⟨o, ho, hc, hd⟩, _⟩ := st
    have e' : b = e ∨ b = it := by simpa using hb
    rcases e' with z | z
    · rw [z]; exact ⟨_, he, fun v q => nomatch q⟩
    · rw [z]; exact ⟨o, ho, fun v q => by rw [hd] at q; cases q⟩
  keep := fun i h h' st k => let ⟨⟨old, he⟩, hi, hne⟩ := st; ⟨⟨old, k e (by simp) _ he⟩, hi.at fun o q => k it (by simp) o q, hne⟩
  item := by
    intro X hP hw hK hc i pins s σ H E I hf st hg
    subst hP hw hK
    obtain ⟨⟨old, he⟩, hit, hne⟩ := st
    obtain ⟨xs, x, hq, hx⟩ := hg
    obtain ⟨its, rv, p, hz⟩ := I.tuple hq
    obtain ⟨u, hu, ru⟩ := rv.get hx
    have hel : e < s.heap.objs.size := Heap.lt_size he
    have hil : it < s.heap.objs.size := by obtain ⟨_, q, _⟩ := hit; exact Heap.lt_size q
    have hne2 : a ≠ it := fun z => by
      obtain ⟨o, ho, hc1, _⟩ := hit
      obtain ⟨o2, ho2, hc2, _⟩ := p
      rw [z, ho] at ho2
      cases ho2
      rw [hc1] at hc2
      exact absurd hc2 (by decide)
    have hne3 : e ≠ a := fun z => by
      obtain ⟨o2, ho2, hc2, _⟩ := p
      rw [← z] at ho2
      rw [he] at ho2
      cases ho2
      exact absurd (show Value.type "enumerate" = .type "tuple" from hc2) (by decide)
    have hlt : i < its.toArray.size := by
      have := (List.getElem?_eq_some_iff.mp hu).1
      simpa using this
    refine wpAny_pyNext_enum_itemD (Draws.tuple (A := X.A.in1) (I.ok.hd hc) it a hne2 its.toArray) he ⟨hit, p⟩ hlt hne (by simp [hne, hne3]) fun x' h' tk hP ho hs' hT hsz hk => ?_
    have hxu : x' = u := by
      have : its.toArray[i]? = some u := by simpa using hu
      rw [this] at hP
      exact (Option.some.inj hP).symm
    subst hxu
    refine ⟨_, rfl, wpAny_letOwnedTupleGo_enum (s := { s with heap := h', toks := tk + 1 }) ho fun h'' he' sb => ?_⟩
    have hT2 : h''.get? s.heap.objs.size = some { cls := .type "tuple", data := .seq #[.int i tk, x'] } := (sb.2 _ (Nat.ne_of_gt hel)).trans hT
    have new : ObjOk X.prog X.w (upd H s.heap.objs.size (.tup [.int (i : Nat), x])) h'' s.heap.objs.size (.tup [.int (i : Nat), x]) :=
      ⟨by show 2 ≤ sizeLine; decide, [.int i tk, x'], .cons ⟨_, rfl⟩ (.cons ru .nil), ⟨_, hT2, rfl, _, rfl⟩⟩
    have I1 : Inv X pins σ (upd H s.heap.objs.size (.tup [.int (i : Nat), x])) { s with heap := h'', toks := tk + 1 } :=
      I.turnedNew (ch := [e, it]) (fun b ob hb q => (sb.2 b (fun z => hb (by simp [z]))).trans (hk b ob (fun z => hb (by simp [z])) (fun z => hb (by simp [z])) q)) hf (Nat.le_refl _) new
    refine ⟨.ref s.heap.objs.size, _, I1, rfl, ⟨_, x, rfl, I.hok.fresh (Nat.le_refl _), rfl, fun ys hy => by rw [I.tuple_inj hy hq]; exact hx⟩, ⟨⟨x', ?_⟩, hs'.1.at fun o q => (sb.2 it (Ne.symm hne)).trans q, hne⟩, fun b hb => ?_⟩
    · have e1 : ((i + 1 : Nat) : Int) = (i : Int) + 1 := by omega
      rw [e1]; exact he'
    · have hb' : b < s.heap.objs.size := by
        have e' : b = e ∨ b = it := by simpa using hb
        rcases e' with z | z
        · rw [z]; exact hel
        · rw [z]; exact hil
      rw [upd_ne (Nat.ne_of_lt hb')]
      exact (hf b hb).1
  done := by
    intro X hP hw hK hc i pins s σ H E I hf st hg
    subst hP hw hK
    obtain ⟨⟨old, he⟩, hit, hne⟩ := st
    obtain ⟨xs, hq, hx⟩ := hg
    obtain ⟨its, rv, p, hz⟩ := I.tuple hq
    obtain ⟨f0, f1, f2, f3, f4, f5⟩ := hf it (by simp)
    have hl := rv.length
    have hne2 : a ≠ it := fun z => by
      obtain ⟨o, ho, hc1, _⟩ := hit
      obtain ⟨o2, ho2, hc2, _⟩ := p
      rw [z, ho] at ho2
      cases ho2
      rw [hc1] at hc2
      exact absurd hc2 (by decide)
    have D : Draws X.prog X.w X.A.in1 it [it, a] i (fun _ _ => False) (fun j h => j = i ∧ h.IsTupleIter it a i ∧ h.IsTuple a its.toArray) :=
      { live := fun _ _ st => let ⟨o, ho, _⟩ := st.2.1; ⟨o, ho⟩
        frame := fun _ _ _ st hk => ⟨st.1, st.2.1.at fun o e => hk it (by simp) o e, st.2.2.at fun o e => hk a (by simp) o e⟩
        item := fun j s Q E hj st hQ => absurd hj (by rw [st.1]; exact Nat.lt_irrefl _)
        done := fun s Q E st hE => wpAny_nextOf_tuple_end (I.ok.hd hc) st.2.1 st.2.2 (by simp; omega) hE }
    exact wpAny_pyNext_enum_endD D he ⟨rfl, hit, p⟩ fun h' eb => ⟨rfl, I.turned (t' := s.toks) (fun b o hb q => eb b o hb q) f0 f1 f3 f4 f5⟩
  self := fun A i s Q E st h => let ⟨⟨_, he⟩, _⟩ := st; wpAny_pyIter_enum he h

/-! ### for .. in enumerate(x) -/
section
variable {S : Sg} {w : XK} {X : Cx} {pos p tpos : Pos} {a b c tg : Expr} {f g h : Sm} {t : SmA}
/-- enumerate(x), x a list or a tuple -/
def iEnumA (K : PySem.W.Frag) (ta : TA) : TI := fun σ H R => ta σ H fun vs H1 => ∃ a, vs = [.ref a] ∧ (((∃ xs, SqL K H1 a xs) ∧ R (Ite K a) H1) ∨ ((∃ xs, SqT K H1 a xs) ∧ R (IteT K a) H1))
theorem pi_enumA {e : Expr} {ta : TA} {elts : List Expr} {kk : Nat} (hg : Gl X "enumerate") (hm : X.mg "enumerate" = none) (ha : PA X [e] ta) (hs : starEach [e] X.env = [(false, eval e X.env)]) :
    PI X (.Tuple elts kk tpos) (.Call (.Name "enumerate" p) [e] [] pos) (iEnumA X.K ta) := by
  refine ⟨fun pins s σ H R I h => ?_⟩
  refine Call_ (ld_blt I hg hm boot_enumerate (PyProof.Rows.callWith_type1 (thn (ha.run pos pins s σ H _ I h) fun us s1 ⟨vs, H1, I1, r1, q1⟩ => ?_) hs rfl))
  obtain ⟨l, ex, q⟩ := q1
  subst ex
  cases r1 with
  | cons r rr =>
    cases rr
    cases r
    have fin : ∀ b ∈ [s1.heap.objs.size + 1, s1.heap.objs.size], FpOk X pins H1 b := fun b hb => by
      have e' : b = s1.heap.objs.size + 1 ∨ b = s1.heap.objs.size := by simpa using hb
      have hle : s1.heap.objs.size ≤ b := by
        rcases e' with z | z
        · rw [z]; exact Nat.le_add_right _ _
        · rw [z]; exact Nat.le_refl _
      exact I1.fpOk hle (I1.hok.fresh hle)
    rcases q with ⟨⟨xs, hq⟩, q⟩ | ⟨⟨xs, hq⟩, q⟩
    · obtain ⟨its, rv, p', hz⟩ := I1.list hq
      refine enum1_begins (begins_list l its.toArray) p'.isList fun h' he hit hk => wpAny_pyIter_enum he ?_
      have I2 : Inv X pins σ H1 { s1 with heap := h' } := I1.kept (t' := s1.toks) hk
      exact ⟨s1.heap.objs.size + 1, [s1.heap.objs.size + 1, s1.heap.objs.size], _, _, H1, rfl, I2, turn_enum l (s1.heap.objs.size + 1) s1.heap.objs.size, ⟨⟨.none, he⟩, ⟨_, hit, rfl, rfl⟩, Nat.succ_ne_self _⟩, fin, q⟩
    · obtain ⟨its, rv, p', hz⟩ := I1.tuple hq
      refine enum1_begins (begins_tuple l its.toArray) p' fun h' he hit hk => wpAny_pyIter_enum he ?_
      have I2 : Inv X pins σ H1 { s1 with heap := h' } := I1.kept (t' := s1.toks) hk
      exact ⟨s1.heap.objs.size + 1, [s1.heap.objs.size + 1, s1.heap.objs.size], _, _, H1, rfl, I2, turn_enumT l (s1.heap.objs.size + 1) s1.heap.objs.size, ⟨⟨.none, he⟩, ⟨_, hit, rfl, rfl⟩, Nat.succ_ne_self _⟩, fin, q⟩
def enumD (xs : List D) : List D := (List.range xs.length).map fun (k : Nat) => .tup [.int k, xs.getD k .non]
theorem enumD_get {xs : List D} {i : Nat} {d : D} (h : (enumD xs)[i]? = some d) : ∃ x, xs[i]? = some x ∧ d = .tup [.int (i : Nat), x] := by
  unfold enumD at h
  rw [List.getElem?_map] at h
  obtain ⟨j, hj, rfl⟩ := map_some h
  have hi : i < xs.length := by
    have := (List.getElem?_eq_some_iff.mp hj).1
    simpa using this
  rw [List.getElem?_range hi] at hj
  cases hj
  exact ⟨xs[i], List.getElem?_eq_getElem hi, by rw [List.getD_eq_getElem?_getD, List.getElem?_eq_getElem hi]; rfl⟩
theorem enumD_len {xs : List D} : (enumD xs).length = xs.length := by simp [enumD]
theorem yield_pair {W W0 : Wd} {H H0 H' : Hp} {T : Addr} {i : Nat} {x : V} {d : D} (fx : Fz S W H d x) (hT : H T = none) (e' : H' = upd H T (.tup [.int (i : Nat), x])) {σ : L2.St} {e : Env'} {M : Sto} (r : Rel S W σ H e M) :
    ∃ W', Rel S W' σ H' e M ∧ Post W e σ H W' e σ H' ∧ Fz S W' H' (.tup [.int (i : Nat), d]) (.ref T) := by
  subst e'
  refine ⟨W.add T, r.laid hT (fun ps z => by cases z), Post.laid hT, ?_⟩
  simp only [Fz]
  exact ⟨T, _, rfl, .inl ⟨.inr rfl, .inl upd_same⟩, FzL.cons (by simp only [Fz]) (FzL.cons (fx.stays (Stays.laid hT)) FzL.nil)⟩
theorem it_enumL {W : Wd} {H : Hp} {l : Addr} {vs : List V} {ds : List D} {K : PySem.W.Frag} (hK : K = S.K) (t : LstAt S W H l vs) (fl : FzL S W H ds vs) : ItOk S (Ite K l) (enumD ds) W H := by
  intro W' H' st i
  have sq : SqL K H' l vs := by
    rw [hK]
    exact .inl (.inl ((st.f l t.1).2 _ t.2 (fun ps e => by cases e)))
  have l' := fl.stays st
  refine ⟨fun d hd => ?_, fun hl => ⟨vs, sq, by rw [← fl.length, ← enumD_len]; exact hl⟩⟩
  obtain ⟨x, hx, rfl⟩ := enumD_get hd
  obtain ⟨v, hv, fv⟩ := l'.get hx
  refine ⟨⟨vs, v, sq, hv⟩, fun y H2 ⟨T, v2, e1, hT, e2, y2⟩ σ e0 M r => ?_⟩
  have := y2 vs sq
  rw [hv] at this
  cases this
  subst e1
  exact yield_pair (W0 := W) (H0 := H) fv hT e2 r
theorem it_enumT {W : Wd} {H : Hp} {l : Addr} {vs : List V} {ds : List D} {K : PySem.W.Frag} (hK : K = S.K) (t : TupAt S W H l vs) (fl : FzL S W H ds vs) : ItOk S (IteT K l) (enumD ds) W H := by
  intro W' H' st i
  have sq : SqT K H' l vs := by
    rw [hK]
    rcases t with ⟨f, r⟩ | t
    · exact .inl (Rd.stays st f r (fun ps e => by cases e))
    · exact SqT.of0 t
  have l' := fl.stays st
  refine ⟨fun d hd => ?_, fun hl => ⟨vs, sq, by rw [← fl.length, ← enumD_len]; exact hl⟩⟩
  obtain ⟨x, hx, rfl⟩ := enumD_get hd
  obtain ⟨v, hv, fv⟩ := l'.get hx
  refine ⟨⟨vs, v, sq, hv⟩, fun y H2 ⟨T, v2, e1, hT, e2, y2⟩ σ e0 M r => ?_⟩
  have := y2 vs sq
  rw [hv] at this
  cases this
  subst e1
  exact yield_pair (W0 := W) (H0 := H) fv hT e2 r
def enumOf : List D → Option (List D)
  | [d] => (items d).map enumD
  | _ => none
theorem si_enum {elts : List Expr} {kk : Nat} (hK : X.K = S.K) (hg : Gl X "enumerate") (hm : X.mg "enumerate" = none) (ha : PA X [a] (TAf S w t)) (hs : starEach [a] X.env = [(false, eval a X.env)]) :
    PI X (.Tuple elts kk tpos) (.Call (.Name "enumerate" p) [a] [] pos) (TIf S w (smRg enumOf t)) := by
  refine PII (pi_enumA hg hm ha hs) fun σ H R ⟨W, e, M, r, k⟩ => ⟨W, e, M, r, KI.bindA k fun ds e1 M1 W1 H1 vs r1 f1 k1 => ?_⟩
  split at k1
  · rename_i xs hx
    unfold enumOf at hx
    split at hx
    · rename_i d
      obtain ⟨ys, hy, rfl⟩ := map_some hx
      obtain ⟨v, rfl, fv⟩ := f1.one
      cases d with
      | tup zs =>
        cases hy
        simp only [Fz] at fv
        obtain ⟨l, us, rfl, t, fl⟩ := fv
        exact ⟨l, rfl, .inr ⟨⟨us, by rw [hK]; exact t.sq⟩, k1 W1 H1 _ r1 Post.refl (it_enumT hK t fl)⟩⟩
      | lst zs =>
        cases hy
        simp only [Fz] at fv
        obtain ⟨l, us, rfl, t, fl⟩ := fv
        exact ⟨l, rfl, .inl ⟨⟨us, by rw [hK]; exact t.sq⟩, k1 W1 H1 _ r1 Post.refl (it_enumL hK t fl)⟩⟩
      | _ => cases hy
    · cases hx
  · exact k1.elim

/-! ### walks over a text -/
theorem it_str {W : Wd} {H : Hp} {x : Str} : ItOk S (Its x) ((tx x).map fun c => D.str (mkS [c])) W H := by
  intro W' H' st i
  have hl : ((tx x).map fun c => D.str (mkS [c])).length = x.cps.size := by simp [tx]
  refine ⟨fun d hd => ?_, fun h => by rw [hl] at h; exact h⟩
  have hi : i < x.cps.size := by rw [← hl]; exact (List.getElem?_eq_some_iff.mp hd).1
  refine ⟨hi, fun y H2 ⟨e1, c, hc, e2⟩ σ e0 M r => ?_⟩
  subst e1 e2
  rw [List.getElem?_map] at hd
  obtain ⟨c', hc', rfl⟩ := map_some hd
  have : (tx x)[i]? = some c := by simpa [tx] using hc
  rw [this] at hc'
  cases hc'
  exact ⟨W', r, Post.refl, by simp only [Fz]; rfl⟩
def strItems : D → Option (List D)
  | .str x => some ((tx x).map fun c => .str (mkS [c]))
  | _ => none
def smItS (f : Sm) : SmA := fun e M => bindSA (f e M) fun _ d e1 M1 => match strItems d with
  | some xs => some (.ok xs, e1, M1)
  | none => none
theorem si_str (ha : PE X a (TEf S w f)) : PI X tg a (TIf S w (smItS f)) := by
  refine PII (pi_str ha) fun σ H R ⟨W, e, M, r, k⟩ => ⟨W, e, M, r, KI.bindF k fun own d e1 M1 W1 H1 v r1 f1 k1 => ?_⟩
  cases d with
  | str x =>
    simp only [Fz] at f1
    exact ⟨x, f1, k1 W1 H1 _ r1 Post.refl it_str⟩
  | _ => exact k1.elim
end
end EV

/-! EvM: calls of the text's functions. -/
namespace EV
open PySem PySem.Spec PyProof.Rows L2

/-- the function named x, n parameters, as F answers; k levels below -/
structure CalF (S : Sg) (mg : Str → Option Value) (base : Heap) (k : Nat) (x : Str) (n : Nat) (F : Fs) : Prop where
  ex : ∃ (f : Addr) (fd : FuncData) (ps : List Str), mg x = some (.ref f) ∧ PySem.W.keepIn S.K (.ref f) = true ∧ Binds S.K fd ps [] ∧ FnOk S.P S.w S.K mg base (CX S.P S.w) k f fd ps (spF S n F)
  nn : ∀ ds M r, F ds M = some r → ds.length = n
theorem CalF.mono {S : Sg} {mg : Str → Option Value} {base : Heap} {j k : Nat} {x : Str} {n : Nat} {F : Fs} (c : CalF S mg base j x n F) (h : j ≤ k) : CalF S mg base k x n F := by
  obtain ⟨f, fd, ps, h1, h2, h3, h4⟩ := c.ex
  exact ⟨⟨f, fd, ps, h1, h2, h3, h4.mono h⟩, c.nn⟩
/-- what a run's exceptions want is taken here -/
def TkW (X : Cx) (w : XK) : Prop := Passes (CX X.prog X.w) X w
theorem tk_blk {X : Cx} : TkW X wF := fun pins σ H s e s' I h => by
  obtain ⟨a, B, H', cls, d, h1, h2, h3, h4, h5, h6, h7, h8⟩ := h
  exact h8.elim
section
variable {S : Sg} {w : XK} {X : Cx} {pos p : Pos} {a b c : Expr} {f g h : Sm} {t : SmA} {es : List Expr} {k j n : Nat} {F : Fs} {x : Str}
theorem se_call (C : CalF S X.mg X.base j x n F) (hj : j ≤ k) (hP : X.prog = S.P) (hW : X.w = S.w) (hK : X.K = S.K) (hr : Room k X.A) (tk : TkW X w) (hg : Gl X x) (ha : PA X (a :: es) (TAf S w t))
    (hdb : (x == ("__debug__" : Str)) = false) (he : starEach (a :: es) X.env = (false, eval a X.env) :: starEach es X.env) (hpl : (backTo pos (starEach es X.env)).any (·.1) = false) :
    PE X (.Call (.Name x p) (a :: es) [] pos) (TEf S w (smCall F t)) := by
  obtain ⟨f, fd, ps, h1, h2, h3, h4⟩ := C.ex
  have h4' : FnOk X.prog X.w X.K X.mg X.base (CX X.prog X.w) j f fd ps (spF S n F) := by rw [hP, hW, hK]; exact h4
  have h2' : PySem.W.keepIn X.K (.ref f) = true := by rw [hK]; exact h2
  have h3' : Binds X.K fd ps [] := by rw [hK]; exact h3
  refine peI (pe_call h4' (hr.mono hj) hg h1 h2' h3' .nil tk ha hdb he hpl) fun _ _ _ z => tcall_of C.nn z
theorem se_call0 (C : CalF S X.mg X.base j x n F) (hj : j ≤ k) (hP : X.prog = S.P) (hW : X.w = S.w) (hK : X.K = S.K) (hr : Room k X.A) (tk : TkW X w) (hg : Gl X x)
    (hdb : (x == ("__debug__" : Str)) = false) : PE X (.Call (.Name x p) [] [] pos) (TEf S w (smCall F saNil)) := by
  obtain ⟨f, fd, ps, h1, h2, h3, h4⟩ := C.ex
  have h4' : FnOk X.prog X.w X.K X.mg X.base (CX X.prog X.w) j f fd ps (spF S n F) := by rw [hP, hW, hK]; exact h4
  have h2' : PySem.W.keepIn X.K (.ref f) = true := by rw [hK]; exact h2
  have h3' : Binds X.K fd ps [] := by rw [hK]; exact h3
  refine peI (pe_call0 h4' (hr.mono hj) hg h1 h2' h3' .nil tk hdb) fun σ H Q ⟨W, e, M, r, q⟩ => ?_
  have z : TEf S w (smCall F saNil) σ H Q := ⟨W, e, M, r, q⟩
  obtain ⟨W', e', M', r', q'⟩ := tcall_of C.nn z
  exact q' W' H [] r' Post.refl FzL.nil
/-- an expression that is not reached -/
def smNo : Sm := fun _ _ => none
theorem se_no : PE X a (TEf S w smNo) := ⟨fun pins s σ H Q I ⟨W, e, M, r, k⟩ => k.elim⟩
theorem st_no : PT X a (TTf S w smNo) := ⟨fun pins s σ H Q I ⟨W, e, M, r, k⟩ => k.elim⟩
def ssNo : SmS := fun _ _ => none
theorem ss_no {st : Stmt} : PS X st (TSf S w ssNo) := ⟨fun pins s σ H D I ⟨W, e, M, r, k⟩ => k.elim⟩
end

/-! ### a def's entry -/
section
variable {S : Sg} {mg : Str → Option Value} {base : Heap}
/-- the body's context -/
abbrev Xb (S : Sg) (mg : Str → Option Value) (base : Heap) (N : List Str) (qual : Str) (scope : Scope) (fad : Addr) (cdv : Value) (A : Around) (outer : List Env) (s : Shared) (H : Hp) (E : XK) : Cx := cxOf (CX S.P S.w) S.P S.w S.K mg base N qual scope fad cdv A outer s H E
theorem tk_body {N : List Str} {qual : Str} {scope : Scope} {fad : Addr} {cdv : Value} {A : Around} {outer : List Env} {s : Shared} {H : Hp} {E : XK} : TkW (Xb S mg base N qual scope fad cdv A outer s H E) E :=
  passes_call (W := fun cls d _ H => E cls d H) (takes_of rfl rfl rfl rfl) fun cls d σ H h => h
theorem po_body {N : List Str} {qual : Str} {scope : Scope} {fad : Addr} {cdv : Value} {A : Around} {outer : List Env} {s : Shared} {H : Hp} {E : XK} : PassesOwn (model (Xb S mg base N qual scope fad cdv A outer s H E).prog (Xb S mg base N qual scope fad cdv A outer s H E).w) (Xb S mg base N qual scope fad cdv A outer s H E).A (Xb S mg base N qual scope fad cdv A outer s H E).env (Xb S mg base N qual scope fad cdv A outer s H E).xe := passes_of rfl
theorem cal_ok {x qual : Str} {params : Arguments} {body : List Stmt} {scope : Scope} {fad : Addr} {N ps : List Str} {k : Nat} {sm : SmS} {fd : FuncData} (hx : mg x = some (.ref fad)) (F : FunD S.K x qual params body scope [] [] fad fd) (Sc : FnScope N ps scope)
    (hb : ∀ (kV doc pm : Value) (an : Option Addr) (cdv ct : Value) (us : List Value), us.length = ps.length → bindArgs (PySem.W.fnOf x qual params body scope .none kV doc pm an cdv ct) ⟨us, []⟩ = pure (ps.zip us))
    (h : ∀ (cdv : Value) (A : Around) (outer : List Env) (s : Shared) (H : Hp) (E : XK), Room k (A.deeper (envOfC qual scope s.heap.objs.size fad cdv)) → PSs (Xb S mg base N qual scope fad cdv A outer s H E) body (TSf S E sm)) :
    CalF S mg base (k + 1) x ps.length (runB ps.length N.length sm) :=
  ⟨⟨fad, fd, ps, hx, F.kp, F.bindsN hb, fn_ok F Sc h⟩, fun ds M r hr => by
    unfold runB at hr
    split at hr
    · assumption
    · cases hr⟩
/-- a function without levels -/
theorem cal_zero {x qual : Str} {params : Arguments} {body : List Stmt} {scope : Scope} {fad : Addr} {ps : List Str} {fd : FuncData} (hx : mg x = some (.ref fad)) (F : FunD S.K x qual params body scope [] [] fad fd)
    (hb : ∀ (kV doc pm : Value) (an : Option Addr) (cdv ct : Value) (us : List Value), us.length = ps.length → bindArgs (PySem.W.fnOf x qual params body scope .none kV doc pm an cdv ct) ⟨us, []⟩ = pure (ps.zip us)) {k : Nat} :
    CalF S mg base k x ps.length (fun _ _ => none) :=
  ⟨⟨fad, fd, ps, hx, F.kp, F.bindsN hb, ⟨fun vs H Q E h => h.1, fun A outer s H args us vs Q E hr he hbd hv ⟨_, W, ds, M, r, l, kk⟩ => kk.elim⟩⟩, fun ds M r hr => by cases hr⟩
end
end EV

/-! EvN: several names at once. -/
namespace EV
open PySem PySem.Spec PyProof.Rows L2

/-! ### a list, unpacked -/
section
variable {prog : Program} {w : World} {A : Around} {E : Value → Shared → Prop} {s : Shared}
theorem draw_lst {it t : Addr} {items : Array Value} (hne : t ≠ it) : ∀ (n i : Nat) (s : Shared) (Q : List Value → Shared → Prop), s.heap.IsListIter it t i → s.heap.IsList t items → i + n ≤ items.size →
    (∀ h', h'.IsListIter it t (i + n) → Heap.SameBut it s.heap h' → Q ((items.toList.drop i).take n) { s with heap := h' }) → wpAny (model prog w) A (draw (.ref it) n) Q E s
  | 0, i, s, Q, hit, _, _, hQ => by
    show wpAny _ _ (pure []) Q E s
    exact wpAny_pure (by simpa using hQ s.heap hit (Heap.SameBut.refl ..))
  | n + 1, i, s, Q, hit, ht, hle, hQ => by
    have hlt : i < items.size := by omega
    show wpAny _ _ (pyNext (.ref it) >>= _) Q E s
    refine wpAny_bind (wpAny_pyNext_list_item hit ht (x := items[i]) (by simp [hlt]) fun h1 hit1 hs1 => ?_)
    refine wpAny_bind (wpAny_holding (draw_lst hne n (i + 1) _ _ hit1 (ht.extBut hs1.extBut hne) (by omega) fun h2 hit2 hs2 => wpAny_pure ?_))
    have hd : items.toList.drop i = items[i] :: items.toList.drop (i + 1) := by simp [List.drop_eq_getElem_cons, hlt]
    have q := hQ h2 (by rw [show i + (n + 1) = i + 1 + n by omega]; exact hit2) (hs1.trans hs2)
    rw [hd, List.take_succ_cons] at q
    exact q
theorem unpackItems_lst {t : Addr} {items : Array Value} {Q : List Value → Shared → Prop} (hh : A.handled = none) (ht : s.heap.IsList t items)
    (hQ : ∀ h', Heap.ExtBut s.heap.objs.size s.heap h' → Q items.toList { s with heap := h' }) : wpAny (model prog w) A (unpackItems (.ref t) items.size none) Q E s := by
  have hlt : t ≠ s.heap.objs.size := by obtain ⟨o, ho, _⟩ := ht; exact Nat.ne_of_lt (Heap.lt_size ho)
  unfold unpackItems
  refine wpAny_bind ?_
  · unfold notIterableAtAll
    refine wpAny_bind (wpAny_specialOf ht.typeIs slot_list_iter.lookup ?_)
    refine wpAny_pure ?_
    simp only [Bool.false_eq_true, if_false]
    refine wpAny_bind (wpAny_holding (wpAny_pyIter_list ht ?_))
    refine wpAny_bind (wpAny_holding (draw_lst hlt items.size 0 _ _ ⟨_, Heap.get?_push_size _ rfl, rfl, rfl⟩ (ht.push _) (by omega) fun h1 hit1 hs1 => ?_))
    have hall : List.take items.size (List.drop 0 items.toList) = items.toList := by
      rw [List.drop_zero]; exact List.take_of_length_le (by simp)
    rw [hall]
    rw [if_neg (by simp)]
    have ht1 : h1.IsList t items := (ht.push _).extBut hs1.extBut hlt
    refine wpAny_bind (wpAny_holding (wpAny_pyNext_list_end hh hit1 ht1 (by simp) fun h2 he2 => ?_))
    simp only [Option.isSome_none, Bool.false_eq_true, if_false]
    refine wpAny_pure (hQ h2 fun b o hb e => he2 b o hb (hs1.extBut b o hb (Heap.get?_push_of_some _ e)))
theorem assign_lst {env : Env} {elts : List Expr} {x1 : Nat} {pos : Pos} {t : Addr} {items : Array Value} {Q : Unit → Shared → Prop} (hh : A.handled = none) (ht : s.heap.IsList t items)
    (hn : (assignEach elts env).length = items.size) (hstar : (assignEach elts env).findIdx? (·.1) = none)
    (h : ∀ h', Heap.ExtBut s.heap.objs.size s.heap h' → wpAny (model prog w) A (assignInOrder ((assignEach elts env).map (·.2)) items.toList) Q E { s with heap := h' }) :
    wpAny (model prog w) A (assign (.Tuple elts x1 pos) env (.ref t)) Q E s := by
  rw [assign_Tuple]
  refine wpAny_bind (wpAny_standAt ?_)
  unfold unpack
  rw [hn, hstar]
  exact wpAny_bind (wpAny_holding (unpackItems_lst hh ht h))
end
section
variable {S : Sg} {w : XK} {X : Cx} {pos p : Pos} {a b c : Expr} {f g h : Sm}
/-- the targets of a tuple or a list -/
def gAnyT (K : PySem.W.Frag) (n : Nat) (t : TGs) : TG := fun v σ H Q => ∃ a vs, v = .ref a ∧ (SqT K H a vs ∨ SqL K H a vs) ∧ vs.length = n ∧ t vs σ H Q
theorem pg_any {n x1 : Nat} {elts : List Expr} {t : TGs} (hc : X.calm = true) (h : PGs X elts t) (hn : (assignEach elts X.env).length = n) (hst : (assignEach elts X.env).findIdx? (·.1) = none) : PG X (.Tuple elts x1 pos) (gAnyT X.K n t) := by
  refine ⟨fun pins s σ H v u Q I r hw => ?_⟩
  obtain ⟨l, xs, e1, hq, hl, hw⟩ := hw
  subst e1
  cases r
  rcases hq with hq | hq
  · obtain ⟨its, rv, ht, hz⟩ := I.tuple hq
    refine assign_Tuple_tuple (I.ok.hd hc) ht (by simp [hn, ← hl, rv.length]) hst fun h' hx => ?_
    have I1 : Inv X pins σ H { s with heap := h' } := I.kept (t' := s.toks) fun b o e => hx b o (Nat.ne_of_lt (Heap.lt_size e)) e
    exact h.run pins _ σ H xs _ Q I1 (by simpa using rv) hw
  · obtain ⟨its, rv, pl, hz⟩ := I.list hq
    refine assign_lst (I.ok.hd hc) pl.isList (by simp [hn, ← hl, rv.length]) hst fun h' hx => ?_
    have I1 : Inv X pins σ H { s with heap := h' } := I.kept (t' := s.toks) fun b o e => hx b o (Nat.ne_of_lt (Heap.lt_size e)) e
    exact h.run pins _ σ H xs _ Q I1 (by simpa using rv) hw
/-- a tuple's or a list's items, to their targets -/
def asT' (as : List D → Env' → Option Env') : D → Env' → Option Env' := fun d e => match items d with
  | some ds => as ds e
  | none => none
theorem sg_any {ix : List Nat} {n k : Nat} {xs : List Expr} {as : List D → Env' → Option Env'} (hK : X.K = S.K) (hc : X.calm = true) (h : PGs X xs (TGsf S ix n as)) (hn : (assignEach xs X.env).length = n) (hst : (assignEach xs X.env).findIdx? (·.1) = none) (hs : ∀ ds e e', as ds e = some e' → ds.length = n) : PG X (.Tuple xs k pos) (TGf S ix (asT' as)) := by
  refine PGI (pg_any (n := n) hc h hn hst) fun v σ H Q ⟨W, e, M, d, r, q, e', he, k⟩ => ?_
  unfold asT' at he
  split at he
  · rename_i ds hd
    obtain ⟨a, vs, rfl, sq, l⟩ := items_of hd q
    have hl := hs ds e e' he
    exact ⟨a, vs, rfl, by rw [hK]; exact sq, by rw [← l.length]; exact hl, W, e, M, ds, r, l, hl, e', he, k⟩
  · cases he
theorem asNil_len : ∀ ds e e', asNil ds e = some e' → ds.length = 0 := fun ds e e' h => by
  cases ds with
  | nil => rfl
  | cons _ _ => cases h
theorem asCons_len {n : Nat} {a1 : D → Env' → Option Env'} {as : List D → Env' → Option Env'} (h : ∀ ds e e', as ds e = some e' → ds.length = n) : ∀ ds e e', asCons a1 as ds e = some e' → ds.length = n + 1 := fun ds e e' q => by
  cases ds with
  | nil => cases q
  | cons d r =>
    have q : (a1 d e).bind (as r) = some e' := q
    cases h1 : a1 d e with
    | none => rw [h1] at q; cases q
    | some e1 => rw [h1] at q; simp [h r e1 e' q]
/-- targets = value, the value frozen -/
def ssAsgT (as : D → Env' → Option Env') (f : Sm) : SmS := fun e M => bindES (f e M) fun _ d e1 M1 => match as d e1 with
  | some e2 => some (.nx, e2, M1)
  | none => none
theorem ss_asgT {ix : List Nat} {as : D → Env' → Option Env'} {tg : Expr} (ha : PE X a (TEf S w f)) (hg : PG X tg (TGf S ix as)) (hs : swapsWithSole [tg] a pos.line X.env = pure false) (hw : swappedStores [tg] a X.env = pure none)
    (h1 : (assignEach [tg] X.env).map (·.2) = [assign tg X.env]) : PS X (.Assign [tg] a pos) (TSf S w (ssAsgT as f)) :=
  psI (ps_asg ha hg hs hw h1) fun D σ H ⟨W, e, M, r, k⟩ => ⟨W, e, M, r, KS.bindEF k fun own d e1 M1 W1 H1 v r1 p1 f1 k1 => by
    split at k1
    · rename_i e2 he2
      exact ⟨W1, e1, M1, d, r1, f1, e2, he2, fun σ' r' p' _ => k1 W1 H1 σ' r' p'⟩
    · exact k1.elim⟩

/-! ### a, b = x, y: what is one's own stays one's own -/
theorem Res.keep {W1 W2 : Wd} {e e1 e2 : Env'} {σ : L2.St} {H H1 H2 : Hp} {M1 : Sto} {own : Bool} {d : D} {v : V} (r1 : Rel S W1 σ H1 e1 M1) (p2 : Post W1 e1 σ H1 W2 e2 σ H2) (q : Res S W1 e1 σ e σ H H1 own d v) : Res S W2 e2 σ e σ H H2 own d v := by
  cases own with
  | false => exact Fz.stays (p2.stays r1) q
  | true =>
    obtain ⟨a, e1, ob, fr, nf, nr, no⟩ := q
    obtain ⟨o, ho, ht⟩ := ob.at
    have tr : ¬ Nw H1 a := nw_no ho ht
    refine ⟨a, e1, ob.stays (p2.stays r1) fun u hu hut => p2.keep a u hu hut no nr, fr, fun z => ?_, fun z => ?_, fun z => ?_⟩
    · rcases p2.new a z with z | z | z | z
      · exact nf z
      · exact tr z
      · exact no z
      · exact nr z
    · rcases p2.ron a z with z | z
      · exact nr z
      · exact tr z
    · rcases p2.own a z with z | z
      · exact no z
      · exact tr z
/-- a result is still apart when another is stored -/
theorem Res.beside {W : Wd} {e e₀ : Env'} {σ σ₀ : L2.St} {H H₀ : Hp} {own own2 : Bool} {d d2 : D} {v v2 : V} {i : Nat} (q : Res S W e σ e₀ σ₀ H₀ H own d v) (ne : ∀ a, own = true → own2 = true → v = .ref a → v2 ≠ .ref a) : Res S W (e.set i (some (own2, d2))) (σ.set i (some v2)) e₀ σ₀ H₀ H own d v := by
  cases own with
  | false => exact q
  | true =>
    obtain ⟨a, e1, ob, fr, nf, nr, no⟩ := q
    refine ⟨a, e1, ob, fr, nf, nr, fun z => ?_⟩
    rcases own_store z with ⟨h1, h2⟩ | z
    · exact ne a rfl h1 e1 h2
    · exact no z
def ssPar2 (i j : Nat) (f g : Sm) : SmS := fun e M => bindES (f e M) fun o1 d1 e1 M1 => bindES (g e1 M1) fun o2 d2 e2 M2 => some (.nx, (e2.set i (some (o1, d1))).set j (some (o2, d2)), M2)
theorem apart {W1 W2 : Wd} {e e1 e2 : Env'} {σ : L2.St} {H H1 H2 : Hp} {M1 : Sto} {o1 o2 : Bool} {d1 d2 : D} {v1 v2 : V} (r1 : Rel S W1 σ H1 e1 M1) (q1 : Res S W1 e1 σ e σ H H1 o1 d1 v1) (q2 : Res S W2 e2 σ e1 σ H1 H2 o2 d2 v2) : ∀ a, o1 = true → o2 = true → v1 = .ref a → v2 ≠ .ref a := by
  intro a h1 h2 h3 h4
  subst h1 h2
  obtain ⟨b, e1', ob, _, _, _, no⟩ := q1
  obtain ⟨b', e2', ob', fr', _⟩ := q2
  rw [h3] at e1'; cases e1'
  rw [h4] at e2'; cases e2'
  rcases fr' with z | z
  · obtain ⟨o, ho, ht⟩ := ob.at
    exact nw_no ho ht z
  · exact no z
theorem KS.bindE2 {W : Wd} {e : Env'} {σ : L2.St} {H : Hp} {W0 : Wd} {e0 : Env'} {H0 : Hp} {r : Ro} {k : Bool → EV.D → Env' → Sto → RoS} {D : Ends} {Q' : VK} (h : KS S w W0 e0 σ H0 (bindES r k) D) (p0 : Post W0 e0 σ H0 W e σ H)
    (c : ∀ own d e1 M1 W1 H1 v, Rel S W1 σ H1 e1 M1 → Post W e σ H W1 e1 σ H1 → Res S W1 e1 σ e σ H H1 own d v → KS S w W0 e0 σ H0 (k own d e1 M1) D → Q' v H1) : KE S w W e σ H r Q' := by
  match r, h with
  | none, h => exact h
  | some (.exc x, e', M'), h => exact fun W' H' cls dx r p q => h W' H' σ cls dx r (p0.trans p) q
  | some (.ok own d, e', M'), h => exact fun W' H' v r p q => c own d e' M' W' H' v r p q h
theorem par2_of {i j : Nat} {D : Ends} {σ : L2.St} {H : Hp} (z : TSf S w (ssPar2 i j f g) D σ H) : tPar i j (tCons (TEf S w f) (tCons (TEf S w g) tNil)) D σ H := by
  obtain ⟨W, e, M, r, k⟩ := z
  refine ⟨W, e, M, r, KS.bindE k fun o1 d1 e1 M1 W1 H1 v1 r1 p1 q1 k1 => ⟨W1, e1, M1, r1, KS.bindE2 k1 p1 fun o2 d2 e2 M2 W2 H2 v2 r2 p2 q2 k2 => ⟨v1, v2, rfl, ?_⟩⟩⟩
  have q1' := q1.keep r1 p2
  have ap := apart r1 q1 q2
  have r3 := r2.store (i := i) q1'
  have q2' : Res S W2 (e2.set i (some (o1, d1))) (σ.set i (some v1)) e σ H H2 o2 d2 v2 := (q2.shift p1).beside fun a h1 h2 h3 h4 => ap a h2 h1 h4 h3
  have r4 := r3.store (i := j) q2'
  exact k2 W2 H2 _ r4 (((p1.trans p2).store (i := i) q1').store (i := j) q2')
theorem ss_par2 {i j : Nat} {x y : Str} {px py pt pt2 : Pos} {kt k2 : Nat} (hc : X.calm = true) (hN : X.N.Nodup) (hi : X.N[i]? = some x) (hj : X.N[j]? = some y) (hij : i ≠ j) (hx : X.env.scope.names.lookup x = some .local) (hy : X.env.scope.names.lookup y = some .local)
    (ha : PE X a (TEf S w f)) (hb : PE X b (TEf S w g)) (hs1 : starEach [a, b] X.env = (false, eval a X.env) :: starEach [b] X.env) (hs2 : starEach [b] X.env = (false, eval b X.env) :: starEach [] X.env)
    (hw : swappedStores [.Tuple [.Name x px, .Name y py] kt pt] (.Tuple [a, b] k2 pt2) X.env = pure (some [x, y])) (hs : swapsWithSole [.Tuple [.Name x px, .Name y py] kt pt] (.Tuple [a, b] k2 pt2) pos.line X.env = pure false) :
    PS X (.Assign [.Tuple [.Name x px, .Name y py] kt pt] (.Tuple [a, b] k2 pt2) pos) (TSf S w (ssPar2 i j f g)) :=
  psI (ps_par hc hN hi hj hij hx hy (pa_cons ha (pa_cons hb pa_nil hs2) hs1) hw hs) fun _ _ _ z => par2_of z
def ssPar3 (i j l : Nat) (f g h : Sm) : SmS := fun e M => bindES (f e M) fun o1 d1 e1 M1 => bindES (g e1 M1) fun o2 d2 e2 M2 => bindES (h e2 M2) fun o3 d3 e3 M3 => some (.nx, ((e3.set i (some (o1, d1))).set j (some (o2, d2))).set l (some (o3, d3)), M3)
theorem par3_of {i j l : Nat} {D : Ends} {σ : L2.St} {H : Hp} (z : TSf S w (ssPar3 i j l f g h) D σ H) : tPar3 i j l (tCons (TEf S w f) (tCons (TEf S w g) (tCons (TEf S w h) tNil))) D σ H := by
  obtain ⟨W, e, M, r, k⟩ := z
  refine ⟨W, e, M, r, KS.bindE k fun o1 d1 e1 M1 W1 H1 v1 r1 p1 q1 k1 => ⟨W1, e1, M1, r1, KS.bindE2 k1 p1 fun o2 d2 e2 M2 W2 H2 v2 r2 p2 q2 k2 => ⟨W2, e2, M2, r2, KS.bindE2 k2 (p1.trans p2) fun o3 d3 e3 M3 W3 H3 v3 r3 p3 q3 k3 => ⟨v1, v2, v3, rfl, ?_⟩⟩⟩⟩
  have q12 := q1.keep r1 p2
  have q1' := q1.keep r1 (p2.trans p3)
  have q2s := q2.shift p1
  have q2' : Res S W3 e3 σ e σ H H3 o2 d2 v2 := q2s.keep r2 p3
  have q3' := q3.shift (p1.trans p2)
  have ap12 := apart r1 q1 q2
  have ap23 := apart r2 q2 q3
  have ap13 := apart r2 q12 q3
  have s1 := r3.store (i := i) q1'
  have t2 : Res S W3 (e3.set i (some (o1, d1))) (σ.set i (some v1)) e σ H H3 o2 d2 v2 := q2'.beside fun a h1 h2 h3 h4 => ap12 a h2 h1 h4 h3
  have s2 := s1.store (i := j) t2
  have t3 : Res S W3 ((e3.set i (some (o1, d1))).set j (some (o2, d2))) ((σ.set i (some v1)).set j (some v2)) e σ H H3 o3 d3 v3 := (q3'.beside fun a h1 h2 h3 h4 => ap13 a h2 h1 h4 h3).beside fun a h1 h2 h3 h4 => ap23 a h2 h1 h4 h3
  have s3 := s2.store (i := l) t3
  exact k3 W3 H3 _ s3 (((((p1.trans p2).trans p3).store (i := i) q1').store (i := j) t2).store (i := l) t3)
end
end EV

/-! EvP: the rules in short, for printed derivations. -/
namespace EV
open PySem PySem.Spec PyProof.Rows L2
section
variable {S : Sg} {w : XK} {X : Cx} {pos p apos : Pos} {a b c : Expr} {f g h : Sm} {t : SmA} {es : List Expr} {j : Nat} {x : Str}
theorem e_int {i : Int} : PE X (.Constant (.int i) j pos) (TEf S w (smC (.int i))) := se_const pe_int fun _ _ => by simp only [Fz]
theorem e_bl {i : Bool} : PE X (.Constant (.bool i) j pos) (TEf S w (smC (.bl i))) := se_const pe_bl fun _ _ => by simp only [Fz]
theorem e_non : PE X (.Constant .none j pos) (TEf S w (smC .non)) := se_const pe_non fun _ _ => by simp only [Fz]
theorem e_str {y : Str} (h : y = x) : PE X (.Constant (.str x) j pos) (TEf S w (smC (.str y))) := by
  subst h
  exact se_const pe_str fun _ _ => by simp only [Fz]
theorem e_var (i : Nat) (hN : X.N[i]? = some x := by rfl) (hv : Vis X.env.scope x := by first | exact Or.inl rfl | exact Or.inr (Or.inl rfl) | exact Or.inr (Or.inr rfl))
    (hd : (x == ("__debug__" : Str)) = false := by decide) (hcd : (x == ("__classdict__" : Str)) = false := by decide) : PE X (.Name x pos) (TEf S w (smV i)) := se_var hN hv hd hcd
theorem e_gint {i : Int} (hm : ∃ t, X.mg x = some (.int i t)) (hg : Gl X x := by rfl) (hd : (x == ("__debug__" : Str)) = false := by decide) : PE X (.Name x pos) (TEf S w (smC (.int i))) := by
  obtain ⟨t, hm⟩ := hm
  exact se_const (v := .int i) (pe_glob hg hm ⟨t, rfl⟩ hd) fun _ _ => by simp only [Fz]
theorem e_gstr {y z : Str} (hm : ∃ t, X.mg x = some (.str z t)) (hy : y = z) (hg : Gl X x := by rfl) (hd : (x == ("__debug__" : Str)) = false := by decide) : PE X (.Name x pos) (TEf S w (smC (.str y))) := by
  obtain ⟨t, hm⟩ := hm
  subst hy
  exact se_const (v := .str y) (pe_glob hg hm ⟨t, rfl⟩ hd) fun _ _ => by simp only [Fz]
/-- a datum that stands in the written part -/
def KD (S : Sg) (d : D) (u : Value) : Prop := ∃ v, RelV v u ∧ ∀ W H, Fz S W H d v
theorem e_gdat {d : D} (hm : ∃ u, X.mg x = some u ∧ KD S d u) (hg : Gl X x := by rfl) (hd : (x == ("__debug__" : Str)) = false := by decide) : PE X (.Name x pos) (TEf S w (smC d)) := by
  obtain ⟨u, hm, v, hv, hf⟩ := hm
  exact se_const (pe_glob hg hm hv hd) hf
theorem hu_room {k : Nat} {A : Around} (r : Room k A) : A.units + 200 < cLine := by have := r.un; omega
theorem e_add (hK : X.K = S.K) (ha : PE X a (TEf S w f)) (hb : PE X b (TEf S w g)) : PE X (.BinOp a .Add b pos) (TEf S w (smOp2 pAdd f g)) := se_bin op_addF (pr_add hK) ha hb
theorem e_sub (ha : PE X a (TEf S w f)) (hb : PE X b (TEf S w g)) : PE X (.BinOp a .Sub b pos) (TEf S w (smOp2 pSub f g)) := se_bin op_sub pr_sub ha hb
theorem e_mul (hK : X.K = S.K) (ha : PE X a (TEf S w f)) (hb : PE X b (TEf S w g)) : PE X (.BinOp a .Mult b pos) (TEf S w (smOp2 pMul f g)) := se_bin op_mulF (pr_mul hK) ha hb
theorem e_div (ha : PE X a (TEf S w f)) (hb : PE X b (TEf S w g)) : PE X (.BinOp a .FloorDiv b pos) (TEf S w (smOp2 pDiv f g)) := se_bin op_fdivN pr_div ha hb
theorem e_mod (ha : PE X a (TEf S w f)) (hb : PE X b (TEf S w g)) : PE X (.BinOp a .Mod b pos) (TEf S w (smOp2 pMod f g)) := se_bin op_modN pr_mod ha hb
theorem e_pow (ha : PE X a (TEf S w f)) (hb : PE X b (TEf S w g)) : PE X (.BinOp a .Pow b pos) (TEf S w (smOp2 pPow f g)) := se_bin op_pow pr_pow ha hb
/-- a comparison: its operator with its reading -/
structure Cp (X : Cx) (S : Sg) (op : CmpOp) (p : D → D → Option (Bool × D)) : Prop where
  ex : ∃ r, OpR X (compareOp op) r ∧ Pr2 S r p
theorem c_eq (hK : X.K = S.K) (hu : X.A.units + 200 < cLine) : Cp X S .Eq pEq := ⟨_, op_eqF hu, pr_eq hK⟩
theorem c_ne (hK : X.K = S.K) (hu : X.A.units + 200 < cLine) : Cp X S .NotEq pNe := ⟨_, op_neF hu, pr_ne hK⟩
theorem c_lt : Cp X S .Lt pLt := ⟨_, op_lt, pr_lt⟩
theorem c_le : Cp X S .LtE pLe := ⟨_, op_le, pr_le⟩
theorem c_gt : Cp X S .Gt pGt := ⟨_, op_gt, pr_gt⟩
theorem c_ge : Cp X S .GtE pGe := ⟨_, op_ge, pr_ge⟩
theorem c_in (hK : X.K = S.K) (hu : X.A.units + 200 < cLine) : Cp X S .In pIn := ⟨_, op_inF hu, pr_in hK⟩
theorem c_nin (hK : X.K = S.K) (hu : X.A.units + 200 < cLine) : Cp X S .NotIn pNotIn := ⟨_, op_notInF hu, pr_notIn hK⟩
theorem c_is : Cp X S .Is pIs := ⟨_, op_isN, pr_is⟩
theorem c_isn : Cp X S .IsNot pIsN := ⟨_, op_notN, pr_isN⟩
theorem e_cmp {op : CmpOp} {pp : D → D → Option (Bool × D)} (ho : Cp X S op pp) (ha : PE X a (TEf S w f)) (hb : PE X b (TEf S w g)) (hm : behindInMarks op b = false := by rfl) : PE X (.Compare a [op] [b] pos) (TEf S w (smOp2 pp f g)) := by
  obtain ⟨r, h1, h2⟩ := ho.ex
  exact se_cmp h1 h2 ha hb hm
theorem t_cmp {op : CmpOp} {pp : D → D → Option (Bool × D)} (ho : Cp X S op pp) (ha : PE X a (TEf S w f)) (hb : PE X b (TEf S w g)) (hm : behindInMarks op b = false := by rfl) : PT X (.Compare a [op] [b] pos) (TTf S w (smOp2 pp f g)) := by
  obtain ⟨r, h1, h2⟩ := ho.ex
  exact st_cmp h1 h2 ha hb hm
theorem e_cmpR (i : Nat) {op : CmpOp} {pp : D → D → Option (Bool × D)} (ho : Cp X S op pp) (ha : PE X a (TEf S w f)) (hN : X.N[i]? = some x := by rfl) (hv : Vis X.env.scope x := by first | exact Or.inl rfl | exact Or.inr (Or.inl rfl) | exact Or.inr (Or.inr rfl))
    (hd : (x == ("__debug__" : Str)) = false := by decide) (hcd : (x == ("__classdict__" : Str)) = false := by decide) (hm : behindInMarks op (.Name x p) = false := by rfl) : PE X (.Compare a [op] [.Name x p] pos) (TEf S w (smPkR pp f i)) := by
  obtain ⟨r, h1, h2⟩ := ho.ex
  exact se_cmpR hN hv hd hcd h1 h2 ha hm
theorem t_cmpR (i : Nat) {op : CmpOp} {pp : D → D → Option (Bool × D)} (ho : Cp X S op pp) (ha : PE X a (TEf S w f)) (hN : X.N[i]? = some x := by rfl) (hv : Vis X.env.scope x := by first | exact Or.inl rfl | exact Or.inr (Or.inl rfl) | exact Or.inr (Or.inr rfl))
    (hd : (x == ("__debug__" : Str)) = false := by decide) (hcd : (x == ("__classdict__" : Str)) = false := by decide) (hm : behindInMarks op (.Name x p) = false := by rfl) : PT X (.Compare a [op] [.Name x p] pos) (TTf S w (smPkR pp f i)) := by
  obtain ⟨r, h1, h2⟩ := ho.ex
  exact st_cmpR hN hv hd hcd h1 h2 ha hm
theorem e_cmpL (i : Nat) {op : CmpOp} {pp : D → D → Option (Bool × D)} (ho : Cp X S op pp) (hb : PE X b (TEf S w g)) (hN : X.N[i]? = some x := by rfl) (hv : Vis X.env.scope x := by first | exact Or.inl rfl | exact Or.inr (Or.inl rfl) | exact Or.inr (Or.inr rfl))
    (hd : (x == ("__debug__" : Str)) = false := by decide) (hcd : (x == ("__classdict__" : Str)) = false := by decide) (hm : behindInMarks op b = false := by rfl) : PE X (.Compare (.Name x p) [op] [b] pos) (TEf S w (smPkL pp i g)) := by
  obtain ⟨r, h1, h2⟩ := ho.ex
  exact se_cmpL hN hv hd hcd h1 h2 hb hm
theorem t_cmpL (i : Nat) {op : CmpOp} {pp : D → D → Option (Bool × D)} (ho : Cp X S op pp) (hb : PE X b (TEf S w g)) (hN : X.N[i]? = some x := by rfl) (hv : Vis X.env.scope x := by first | exact Or.inl rfl | exact Or.inr (Or.inl rfl) | exact Or.inr (Or.inr rfl))
    (hd : (x == ("__debug__" : Str)) = false := by decide) (hcd : (x == ("__classdict__" : Str)) = false := by decide) (hm : behindInMarks op b = false := by rfl) : PT X (.Compare (.Name x p) [op] [b] pos) (TTf S w (smPkL pp i g)) := by
  obtain ⟨r, h1, h2⟩ := ho.ex
  exact st_cmpL hN hv hd hcd h1 h2 hb hm
theorem e_chain {op op' : CmpOp} {pp pp' : D → D → Option (Bool × D)} (ho : Cp X S op pp) (ho' : Cp X S op' pp') (ha : PE X a (TEf S w f)) (hb : PE X b (TEf S w g)) (hc : PE X c (TEf S w h)) (hm : lastMarks [op, op'] [b, c] = false := by rfl) :
    PE X (.Compare a [op, op'] [b, c] pos) (TEf S w (smChain pp pp' f g h)) := by
  obtain ⟨r, h1, h2⟩ := ho.ex
  obtain ⟨r', h1', h2'⟩ := ho'.ex
  exact se_chain h1 h1' h2 h2' ha hb hc hm
theorem t_chain {op op' : CmpOp} {pp pp' : D → D → Option (Bool × D)} (ho : Cp X S op pp) (ho' : Cp X S op' pp') (ha : PE X a (TEf S w f)) (hb : PE X b (TEf S w g)) (hc : PE X c (TEf S w h)) (hm : lastMarks [op, op'] [b, c] = false := by rfl) :
    PT X (.Compare a [op, op'] [b, c] pos) (TTf S w (smChain pp pp' f g h)) := by
  obtain ⟨r, h1, h2⟩ := ho.ex
  obtain ⟨r', h1', h2'⟩ := ho'.ex
  exact st_chain h1 h1' h2 h2' ha hb hc hm
theorem t_val (he : PE X a (TEf S w f)) (hv : ∀ whole, isTrue a X.env whole = (do let v ← whole; standAt a.pos; holding [v] (truthy v)) := by intro _; rfl) : PT X a (TTf S w f) := st_val he hv
theorem t_w {op : BoolOp} (h : PW X (.BoolOp op es pos) (TTf S w f)) : PT X (.BoolOp op es pos) (TTf S w f) := h.pt
theorem e_ix (hK : X.K = S.K) (ha : PE X a (TEf S w f)) (hb : PE X b (TEf S w g)) (hs : PlainIx b := by intro _ _; rfl) : PE X (.Subscript a b pos) (TEf S w (smOp2 (pIxS S.ns) f g)) := se_ix hK ha hb hs
theorem e_ixL (i : Nat) (hK : X.K = S.K) (hb : PE X b (TEf S w g)) (hN : X.N[i]? = some x := by rfl) (hv : Vis X.env.scope x := by first | exact Or.inl rfl | exact Or.inr (Or.inl rfl) | exact Or.inr (Or.inr rfl))
    (hd : (x == ("__debug__" : Str)) = false := by decide) (hcd : (x == ("__classdict__" : Str)) = false := by decide) (hs : PlainIx b := by intro _ _; rfl) : PE X (.Subscript (.Name x p) b pos) (TEf S w (smPkL (pIxS S.ns) i g)) := se_ixL hK hN hv hd hcd hb hs
theorem e_sliceL (i : Nat) {p2 : Pos} {lo hi : Option Expr} {lo' hi' : Option Sm} (hK : X.K = S.K) (hl : POs S w X lo lo') (hu : POs S w X hi hi') (hN : X.N[i]? = some x := by rfl) (hv : Vis X.env.scope x := by first | exact Or.inl rfl | exact Or.inr (Or.inl rfl) | exact Or.inr (Or.inr rfl))
    (hd : (x == ("__debug__" : Str)) = false := by decide) (hcd : (x == ("__classdict__" : Str)) = false := by decide) : PE X (.Subscript (.Name x p) (.Slice lo hi none p2) pos) (TEf S w (smSlL i lo' hi')) := se_sliceL hK hN hv hd hcd hl hu
theorem a_cons (ha : PE X a (TEf S w f)) (hr : PA X es (TAf S w t)) (hs : starEach (a :: es) X.env = (false, eval a X.env) :: starEach es X.env := by rfl) : PA X (a :: es) (TAf S w (saCons f t)) := sa_cons ha hr hs
theorem a_star {p : Pos} (hK : X.K = S.K) (ha : PE X a (TEf S w f)) (hr : PA X es (TAf S w t)) (hs : starEach (.Starred a p :: es) X.env = (true, eval a X.env) :: starEach es X.env := by rfl) : PA X (.Starred a p :: es) (TAf S w (saStar f t)) := sa_star hK ha hr hs
theorem e_call {k j n : Nat} {F : Fs} (C : CalF S X.mg X.base j x n F) (hj : j ≤ k) (hr : Room k X.A) (tk : TkW X w) (ha : PA X (a :: es) (TAf S w t)) (hP : X.prog = S.P := by rfl) (hW : X.w = S.w := by rfl) (hK : X.K = S.K := by rfl) (hg : Gl X x := by rfl)
    (hdb : (x == ("__debug__" : Str)) = false := by decide) (he : starEach (a :: es) X.env = (false, eval a X.env) :: starEach es X.env := by rfl) (hpl : (backTo pos (starEach es X.env)).any (·.1) = false := by rfl) :
    PE X (.Call (.Name x p) (a :: es) [] pos) (TEf S w (smCall F t)) := se_call C hj hP hW hK hr tk hg ha hdb he hpl
theorem e_call0 {k j n : Nat} {F : Fs} (C : CalF S X.mg X.base j x n F) (hj : j ≤ k) (hr : Room k X.A) (tk : TkW X w) (hP : X.prog = S.P := by rfl) (hW : X.w = S.w := by rfl) (hK : X.K = S.K := by rfl) (hg : Gl X x := by rfl)
    (hdb : (x == ("__debug__" : Str)) = false := by decide) : PE X (.Call (.Name x p) [] [] pos) (TEf S w (smCall F saNil)) := se_call0 C hj hP hW hK hr tk hg hdb
theorem e_len (hK : X.K = S.K) (hm : X.mg "len" = none) (ha : PA X (a :: es) (TAf S w t)) (hg : Gl X "len" := by rfl) (he : starEach (a :: es) X.env = (false, eval a X.env) :: starEach es X.env := by rfl) (hpl : (backTo pos (starEach es X.env)).any (·.1) = false := by rfl) :
    PE X (.Call (.Name "len" p) (a :: es) [] pos) (TEf S w (smCB (pLen S.ns) t)) := se_callB (prn_len hK) call_lenF hg hm boot_len ha (by decide) (by decide) he hpl
/-- len(x), x looked at -/
theorem e_lenL (i : Nat) {p3 : Pos} (hK : X.K = S.K) (hm : X.mg "len" = none) (hg : Gl X "len" := by rfl) (hN : X.N[i]? = some x := by rfl) (hv : Vis X.env.scope x := by first | exact Or.inl rfl | exact Or.inr (Or.inl rfl) | exact Or.inr (Or.inr rfl))
    (hd : (x == ("__debug__" : Str)) = false := by decide) (hcd : (x == ("__classdict__" : Str)) = false := by decide) (he : starEach [.Name x p3] X.env = (false, eval (.Name x p3) X.env) :: starEach [] X.env := by rfl) (hpl : (backTo pos (starEach [] X.env)).any (·.1) = false := by rfl) :
    PE X (.Call (.Name "len" p) [.Name x p3] [] pos) (TEf S w (smPk1 (fun d => pLen S.ns [d]) i)) := by
  refine peI (pe_callB call_lenF hg hm boot_len (pa_cons (pe_var hN hv hd hcd) pa_nil he) (by decide) (by decide) he hpl) fun σ H Q ⟨W, e, M, r, k⟩ => ?_
  unfold smPk1 at k
  split at k
  · exact k.elim
  · rename_i d h1
    obtain ⟨v, hv2, rb⟩ := r.pk h1
    obtain ⟨own, d2, e2, gv⟩ := KE.out1 k
    refine ⟨v, hv2, ?_⟩
    rw [hK]
    exact len_of r (r.dr rb) e2 gv
theorem e_tuple (hK : X.K = S.K) (hm : X.mg "tuple" = none) (ha : PA X (a :: es) (TAf S w t)) (hg : Gl X "tuple" := by rfl) (he : starEach (a :: es) X.env = (false, eval a X.env) :: starEach es X.env := by rfl) (hpl : (backTo pos (starEach es X.env)).any (·.1) = false := by rfl) :
    PE X (.Call (.Name "tuple" p) (a :: es) [] pos) (TEf S w (smCB pTuple t)) := se_callTy (prn_tuple hK) call_tuple_of hg hm rfl ha (by decide) (by decide) he hpl
theorem e_list (hK : X.K = S.K) (hm : X.mg "list" = none) (ha : PA X (a :: es) (TAf S w t)) (hg : Gl X "list" := by rfl) (he : starEach (a :: es) X.env = (false, eval a X.env) :: starEach es X.env := by rfl) (hpl : (backTo pos (starEach es X.env)).any (·.1) = false := by rfl) :
    PE X (.Call (.Name "list" p) (a :: es) [] pos) (TEf S w (smCB pList t)) := se_callTy (prn_list hK) call_list_of hg hm rfl ha (by decide) (by decide) he hpl
theorem e_all (hK : X.K = S.K) (hm : X.mg "all" = none) (ha : PA X (a :: es) (TAf S w t)) (hc : X.calm = true := by rfl) (hg : Gl X "all" := by rfl) (he : starEach (a :: es) X.env = (false, eval a X.env) :: starEach es X.env := by rfl) (hpl : (backTo pos (starEach es X.env)).any (·.1) = false := by rfl) :
    PE X (.Call (.Name "all" p) (a :: es) [] pos) (TEf S w (smCB pAll t)) := se_callB (prn_all hK) (cr_all hc) hg hm rfl ha (by decide) (by decide) he hpl
theorem e_any (hK : X.K = S.K) (hm : X.mg "any" = none) (ha : PA X (a :: es) (TAf S w t)) (hc : X.calm = true := by rfl) (hg : Gl X "any" := by rfl) (he : starEach (a :: es) X.env = (false, eval a X.env) :: starEach es X.env := by rfl) (hpl : (backTo pos (starEach es X.env)).any (·.1) = false := by rfl) :
    PE X (.Call (.Name "any" p) (a :: es) [] pos) (TEf S w (smCB pAny t)) := se_callB (prn_any hK) (cr_any hc) hg hm rfl ha (by decide) (by decide) he hpl
theorem e_sum (hK : X.K = S.K) (hm : X.mg "sum" = none) (ha : PA X (a :: es) (TAf S w t)) (hc : X.calm = true := by rfl) (hg : Gl X "sum" := by rfl) (he : starEach (a :: es) X.env = (false, eval a X.env) :: starEach es X.env := by rfl) (hpl : (backTo pos (starEach es X.env)).any (·.1) = false := by rfl) :
    PE X (.Call (.Name "sum" p) (a :: es) [] pos) (TEf S w (smCB pSum t)) := se_callB (prn_sum hK) (cr_sum hc) hg hm rfl ha (by decide) (by decide) he hpl
theorem e_intc (hm : X.mg "int" = none) (ha : PA X (a :: es) (TAf S w t)) (hg : Gl X "int" := by rfl) (he : starEach (a :: es) X.env = (false, eval a X.env) :: starEach es X.env := by rfl) (hpl : (backTo pos (starEach es X.env)).any (·.1) = false := by rfl) :
    PE X (.Call (.Name "int" p) (a :: es) [] pos) (TEf S w (smCB pInt t)) := se_callTy prn_int call_intF hg hm rfl ha (by decide) (by decide) he hpl
theorem e_strc (hm : X.mg "str" = none) (ha : PA X (a :: es) (TAf S w t)) (hg : Gl X "str" := by rfl) (he : starEach (a :: es) X.env = (false, eval a X.env) :: starEach es X.env := by rfl) (hpl : (backTo pos (starEach es X.env)).any (·.1) = false := by rfl) :
    PE X (.Call (.Name "str" p) (a :: es) [] pos) (TEf S w (smCB pStr t)) := se_callTy prn_str call_str_int hg hm rfl ha (by decide) (by decide) he hpl
theorem e_isi (T : Ty) {p2 : Pos} (hK : X.K = S.K) (ha : PE X a (TEf S w f)) (hx : X.mg x = none) (hm : X.mg "isinstance" = none) (hv : bootBuiltins x = some (.type T.nm) := by rfl) (hg1 : Gl X x := by rfl) (hn1 : x ≠ "__name__" := by decide) (hd1 : (x == ("__debug__" : Str)) = false := by decide) (hg : Gl X "isinstance" := by rfl)
    (he : starEach [a, .Name x p2] X.env = (false, eval a X.env) :: starEach [.Name x p2] X.env := by rfl) (hpl : (backTo pos (starEach [.Name x p2] X.env)).any (·.1) = false := by rfl) :
    PE X (.Call (.Name "isinstance" p) [a, .Name x p2] [] pos) (TEf S w (smOp1 (pIs1 T) f)) := se_isi hK ha (pe_bltn hg1 hx hv rfl hn1 hd1) hg hm he hpl
theorem e_split (ha : PE X a (TEf S w f)) (hb : PE X b (TEf S w g)) (hs : starEach [b] X.env = [(false, eval b X.env)] := by rfl) (hbase : attributeBase a "split" X.env (eval a X.env) = eval a X.env := by rfl) (hline : (apos.endLine == pos.line) = true := by rfl) :
    PE X (.Call (.Attribute a "split" apos) [b] [] pos) (TEf S w (smM1 pSplit f g)) := se_m1 prm_split F.slot_str_split F.type_str_split mt_split ha hb hs hbase hline
theorem e_countS (ha : PE X a (TEf S w f)) (hb : PE X b (TEf S w g)) (hs : starEach [b] X.env = [(false, eval b X.env)] := by rfl) (hbase : attributeBase a "count" X.env (eval a X.env) = eval a X.env := by rfl) (hline : (apos.endLine == pos.line) = true := by rfl) :
    PE X (.Call (.Attribute a "count" apos) [b] [] pos) (TEf S w (smM1 pCountS f g)) := se_m1 prm_countS F.slot_str_count F.type_str_count mt_count ha hb hs hbase hline
theorem e_indexS (ha : PE X a (TEf S w f)) (hb : PE X b (TEf S w g)) (hs : starEach [b] X.env = [(false, eval b X.env)] := by rfl) (hbase : attributeBase a "index" X.env (eval a X.env) = eval a X.env := by rfl) (hline : (apos.endLine == pos.line) = true := by rfl) :
    PE X (.Call (.Attribute a "index" apos) [b] [] pos) (TEf S w (smM1 pIndexS f g)) := se_m1 prm_indexS F.slot_str_index F.type_str_index mt_sindex ha hb hs hbase hline
theorem e_join (hK : X.K = S.K) (ha : PE X a (TEf S w f)) (hb : PE X b (TEf S w g)) (hs : starEach [b] X.env = [(false, eval b X.env)] := by rfl) (hbase : attributeBase a "join" X.env (eval a X.env) = eval a X.env := by rfl) (hline : (apos.endLine == pos.line) = true := by rfl) :
    PE X (.Call (.Attribute a "join" apos) [b] [] pos) (TEf S w (smM1 pJoin f g)) := se_m1 (prm_join hK) F.slot_str_join F.type_str_join mt_join ha hb hs hbase hline
/-- x.m(..), a method that writes the list -/
theorem e_mut (i : Nat) {id : String} {name : Str} {p3 : Pos} {r : V → List V → Hp → VK → Prop} {pm : Mut} (hp : PrMut S r pm) (slot : Slot "list" name id) (hty : typeOf (.builtin id) = pure (.type "method_descriptor")) (hm : MtR X id r) (ha : PA X (a :: es) (TAf S w t))
    (hN : X.N[i]? = some x := by rfl) (hv : Vis X.env.scope x := by first | exact Or.inl rfl | exact Or.inr (Or.inl rfl) | exact Or.inr (Or.inr rfl)) (hd : (x == ("__debug__" : Str)) = false := by decide) (hcd : (x == ("__classdict__" : Str)) = false := by decide)
    (hbase : attributeBase (.Name x p3) name X.env (eval (.Name x p3) X.env) = eval (.Name x p3) X.env := by rfl)
    (hfew : ((backTo pos (starEach (a :: es) X.env)).all (fun x => !x.1) && (backToKw pos (keywordEach [] X.env)).all (fun x => x.1.isSome) && decide ((a :: es).length + ([] : List Keyword).length + (if ([] : List Keyword).isEmpty then 0 else 1) < 30)) = true := by rfl)
    (hline : (apos.endLine == pos.line) = true := by rfl) (hs : starEach (a :: es) X.env = (false, eval a X.env) :: starEach es X.env := by rfl) (hplain : (backTo pos (starEach es X.env)).any (·.1) = false := by rfl) :
    PE X (.Call (.Attribute (.Name x p3) name apos) (a :: es) [] pos) (TEf S w (smMut pm i t)) :=
  peI (pe_bm F.plainAttrs_list slot hty hm (pe_var hN hv hd hcd) ha hbase hfew hline hs hplain) fun _ _ _ z => mut_of hp z
theorem e_mut0 (i : Nat) {id : String} {name : Str} {p3 : Pos} {r : V → List V → Hp → VK → Prop} {pm : Mut} (hp : PrMut S r pm) (slot : Slot "list" name id) (hty : typeOf (.builtin id) = pure (.type "method_descriptor")) (hm : MtR X id r)
    (hN : X.N[i]? = some x := by rfl) (hv : Vis X.env.scope x := by first | exact Or.inl rfl | exact Or.inr (Or.inl rfl) | exact Or.inr (Or.inr rfl)) (hd : (x == ("__debug__" : Str)) = false := by decide) (hcd : (x == ("__classdict__" : Str)) = false := by decide)
    (hbase : attributeBase (.Name x p3) name X.env (eval (.Name x p3) X.env) = eval (.Name x p3) X.env := by rfl) (hline : (apos.endLine == pos.line) = true := by rfl) :
    PE X (.Call (.Attribute (.Name x p3) name apos) [] [] pos) (TEf S w (smMut pm i saNil)) :=
  peI (pe_bm0 F.plainAttrs_list slot hty hm (pe_var hN hv hd hcd) hbase hline) fun σ H Q z => by
    obtain ⟨v, hv2, h1, W, e, M, r, k⟩ := mut_of (K := X.K) hp z
    exact ⟨v, hv2, h1, k W H [] r Post.refl FzL.nil⟩
theorem e_append (i : Nat) {p3 : Pos} (ha : PA X [a] (TAf S w t)) (hN : X.N[i]? = some x := by rfl) (hv : Vis X.env.scope x := by first | exact Or.inl rfl | exact Or.inr (Or.inl rfl) | exact Or.inr (Or.inr rfl)) (hd : (x == ("__debug__" : Str)) = false := by decide) (hcd : (x == ("__classdict__" : Str)) = false := by decide)
    (hbase : attributeBase (.Name x p3) "append" X.env (eval (.Name x p3) X.env) = eval (.Name x p3) X.env := by rfl)
    (hfew : ((backTo pos (starEach [a] X.env)).all (fun x => !x.1) && (backToKw pos (keywordEach [] X.env)).all (fun x => x.1.isSome) && decide ([a].length + ([] : List Keyword).length + (if ([] : List Keyword).isEmpty then 0 else 1) < 30)) = true := by rfl)
    (hline : (apos.endLine == pos.line) = true := by rfl) (hs : starEach [a] X.env = (false, eval a X.env) :: starEach [] X.env := by rfl) :
    PE X (.Call (.Attribute (.Name x p3) "append" apos) [a] [] pos) (TEf S w (smMut mAppend i t)) := e_mut i mut_append F.slot_list_append F.type_list_append mt_append ha hN hv hd hcd hbase hfew hline hs rfl
theorem e_extend (i : Nat) {p3 : Pos} (ha : PA X [a] (TAf S w t)) (hN : X.N[i]? = some x := by rfl) (hv : Vis X.env.scope x := by first | exact Or.inl rfl | exact Or.inr (Or.inl rfl) | exact Or.inr (Or.inr rfl)) (hd : (x == ("__debug__" : Str)) = false := by decide) (hcd : (x == ("__classdict__" : Str)) = false := by decide)
    (hbase : attributeBase (.Name x p3) "extend" X.env (eval (.Name x p3) X.env) = eval (.Name x p3) X.env := by rfl)
    (hfew : ((backTo pos (starEach [a] X.env)).all (fun x => !x.1) && (backToKw pos (keywordEach [] X.env)).all (fun x => x.1.isSome) && decide ([a].length + ([] : List Keyword).length + (if ([] : List Keyword).isEmpty then 0 else 1) < 30)) = true := by rfl)
    (hline : (apos.endLine == pos.line) = true := by rfl) (hs : starEach [a] X.env = (false, eval a X.env) :: starEach [] X.env := by rfl) :
    PE X (.Call (.Attribute (.Name x p3) "extend" apos) [a] [] pos) (TEf S w (smMut mExtend i t)) := e_mut i mut_extend F.slot_list_extend F.type_list_extend mt_extend ha hN hv hd hcd hbase hfew hline hs rfl
theorem e_popAt (i : Nat) {p3 : Pos} (ha : PA X [a] (TAf S w t)) (hN : X.N[i]? = some x := by rfl) (hv : Vis X.env.scope x := by first | exact Or.inl rfl | exact Or.inr (Or.inl rfl) | exact Or.inr (Or.inr rfl)) (hd : (x == ("__debug__" : Str)) = false := by decide) (hcd : (x == ("__classdict__" : Str)) = false := by decide)
    (hbase : attributeBase (.Name x p3) "pop" X.env (eval (.Name x p3) X.env) = eval (.Name x p3) X.env := by rfl)
    (hfew : ((backTo pos (starEach [a] X.env)).all (fun x => !x.1) && (backToKw pos (keywordEach [] X.env)).all (fun x => x.1.isSome) && decide ([a].length + ([] : List Keyword).length + (if ([] : List Keyword).isEmpty then 0 else 1) < 30)) = true := by rfl)
    (hline : (apos.endLine == pos.line) = true := by rfl) (hs : starEach [a] X.env = (false, eval a X.env) :: starEach [] X.env := by rfl) :
    PE X (.Call (.Attribute (.Name x p3) "pop" apos) [a] [] pos) (TEf S w (smMut mPopAt i t)) := e_mut i mut_popAt F.slot_list_pop F.type_list_pop mt_popAt ha hN hv hd hcd hbase hfew hline hs rfl

/-! ### statements -/
variable {st : Stmt} {rest : List Stmt} {s u : SmS}
theorem s_set (i : Nat) {ps : Pos} (hN : X.N.Nodup) (ha : PE X a (TEf S w f)) (hi : X.N[i]? = some x := by rfl) (hx : Loc X.env.scope x := by first | exact Or.inl rfl | exact Or.inr rfl) (hs : swapsWith a (some (.Name x ps)) pos.line X.env = pure false := by rfl)
    (hf : X.fn x = true ∨ X.env.scope.names.lookup x = some .local := by first | exact .inl rfl | exact .inr rfl) : PS X (.Assign [.Name x ps] a pos) (TSf S w (ssAsg i f)) := ss_set hN hi hx ha hs hf
theorem s_expr (ha : PE X a (TEf S w f)) (hs : swapsWith a none pos.line X.env = pure false := by rfl) : PS X (.Expr a pos) (TSf S w (ssExpr f)) := ss_expr ha hs
theorem s_retV (i : Nat) (hN : X.N[i]? = some x := by rfl) (hv : Vis X.env.scope x := by first | exact Or.inl rfl | exact Or.inr (Or.inl rfl) | exact Or.inr (Or.inr rfl)) (hd : (x == ("__debug__" : Str)) = false := by decide) (hcd : (x == ("__classdict__" : Str)) = false := by decide) :
    PS X (.Return (some (.Name x p)) pos) (TSf S w (ssRetV i)) := ss_retV hN hv hd hcd
theorem g_name (i : Nat) (hN : X.N.Nodup) (hi : X.N[i]? = some x := by rfl) (hx : Loc X.env.scope x := by first | exact Or.inl rfl | exact Or.inr rfl) (hf : X.fn x = true ∨ X.env.scope.names.lookup x = some .local := by first | exact .inl rfl | exact .inr rfl) : PG X (.Name x pos) (TGf S [i] (asN i)) := sg_name hN hi hx hf
theorem g_cons {n : Nat} {ix iy : List Nat} {xs : List Expr} {a1 : D → Env' → Option Env'} {as : List D → Env' → Option Env'} (h1 : PG X a (TGf S ix a1)) (h2 : PGs X xs (TGsf S iy n as)) (hs : ((assignEach (a :: xs) X.env).map (·.2)) = assign a X.env :: ((assignEach xs X.env).map (·.2)) := by rfl) : PGs X (a :: xs) (TGsf S (ix ++ iy) (n + 1) (asCons a1 as)) := sg_cons hs h1 h2
theorem g_any {ix : List Nat} {n k : Nat} {xs : List Expr} {as : List D → Env' → Option Env'} (hK : X.K = S.K) (h : PGs X xs (TGsf S ix n as)) (hs : ∀ ds e e', as ds e = some e' → ds.length = n) (hc : X.calm = true := by rfl) (hn : (assignEach xs X.env).length = n := by rfl) (hst : (assignEach xs X.env).findIdx? (·.1) = none := by rfl) : PG X (.Tuple xs k pos) (TGf S ix (asT' as)) := sg_any hK hc h hn hst hs
theorem s_asgT {ix : List Nat} {as : D → Env' → Option Env'} {tg : Expr} (ha : PE X a (TEf S w f)) (hg : PG X tg (TGf S ix as)) (hs : swapsWithSole [tg] a pos.line X.env = pure false := by rfl) (hw : swappedStores [tg] a X.env = pure none := by rfl)
    (h1 : (assignEach [tg] X.env).map (·.2) = [assign tg X.env] := by rfl) : PS X (.Assign [tg] a pos) (TSf S w (ssAsgT as f)) := ss_asgT ha hg hs hw h1
theorem s_par2 (i j : Nat) {x y : Str} {px py pt pt2 : Pos} {kt k2 : Nat} (hN : X.N.Nodup) (ha : PE X a (TEf S w f)) (hb : PE X b (TEf S w g)) (hc : X.calm = true := by rfl) (hi : X.N[i]? = some x := by rfl) (hj : X.N[j]? = some y := by rfl) (hij : i ≠ j := by decide) (hx : X.env.scope.names.lookup x = some .local := by rfl) (hy : X.env.scope.names.lookup y = some .local := by rfl)
    (hs1 : starEach [a, b] X.env = (false, eval a X.env) :: starEach [b] X.env := by rfl) (hs2 : starEach [b] X.env = (false, eval b X.env) :: starEach [] X.env := by rfl)
    (hw : swappedStores [.Tuple [.Name x px, .Name y py] kt pt] (.Tuple [a, b] k2 pt2) X.env = pure (some [x, y]) := by rfl) (hs : swapsWithSole [.Tuple [.Name x px, .Name y py] kt pt] (.Tuple [a, b] k2 pt2) pos.line X.env = pure false := by rfl) :
    PS X (.Assign [.Tuple [.Name x px, .Name y py] kt pt] (.Tuple [a, b] k2 pt2) pos) (TSf S w (ssPar2 i j f g)) := ss_par2 hc hN hi hj hij hx hy ha hb hs1 hs2 hw hs
theorem s_for {tg iter : Expr} {body : List Stmt} {ix : List Nat} {as : D → Env' → Option Env'} {fi : SmA} (hp : PassesOwn (model X.prog X.w) X.A X.env X.xe) (hi : PI X tg iter (TIf S w fi)) (hg : PG X tg (TGf S ix as)) (hb : PSs X body (TSf S w s)) (hc : X.calm = true := by rfl)
    (hs : ∀ x, foldedSetIterable iter X.env x = pure x := by intro _; rfl) : PS X (.For tg iter body [] pos) (TSf S w (ssFor as fi s)) := ss_for hp hc hi hg hb hs
theorem s_while {body : List Stmt} (n : Nat) (hp : PassesOwn (model X.prog X.w) X.A X.env X.xe) (hc : PT X c (TTf S w h)) (hb : PSs X body (TSf S w s)) : PS X (.While c body [] pos) (TSf S w (whL h s n)) := ss_while n hp hc hb
theorem s_put (i : Nat) {ps : Pos} (ha : PE X a (TEf S w f)) (hb : PE X b (TEf S w g)) (hN : X.N[i]? = some x := by rfl) (hv : Vis X.env.scope x := by first | exact Or.inl rfl | exact Or.inr (Or.inl rfl) | exact Or.inr (Or.inr rfl)) (hd : (x == ("__debug__" : Str)) = false := by decide) (hcd : (x == ("__classdict__" : Str)) = false := by decide)
    (hasg : ∀ v, assign (.Subscript (.Name x p) b ps) X.env v = (do
      let ov ← holding [v] (eval (.Name x p) X.env)
      let iv ← holding [v, ov] (eval b X.env)
      standAt ps
      holding [v, ov, iv] (setItem ov iv v)
      release [v, ov, iv] []) := by intro _; rfl)
    (hs : swapsWithSole [.Subscript (.Name x p) b ps] a pos.line X.env = pure false := by rfl) (hw : swappedStores [.Subscript (.Name x p) b ps] a X.env = pure none := by rfl) (h1 : (assignEach [.Subscript (.Name x p) b ps] X.env).map (·.2) = [assign (.Subscript (.Name x p) b ps) X.env] := by rfl) :
    PS X (.Assign [.Subscript (.Name x p) b ps] a pos) (TSf S w (ssPut f i g)) := ss_put hN hv hd hcd ha hb hasg hs hw h1
theorem i_range1 (hm : X.mg "range" = none) (ha : PA X [a] (TAf S w t)) {tg : Expr} (hg : Gl X "range" := by rfl) (hs : starEach [a] X.env = [(false, eval a X.env)] := by rfl) : PI X tg (.Call (.Name "range" p) [a] [] pos) (TIf S w (smRg rg1 t)) := si_range1 hg hm ha hs
theorem i_range2 (hm : X.mg "range" = none) (ha : PA X [a, b] (TAf S w t)) {tg : Expr} (hg : Gl X "range" := by rfl) (hs : starEach [a, b] X.env = [(false, eval a X.env), (false, eval b X.env)] := by rfl) (hs2 : starEach [b] X.env = [(false, eval b X.env)] := by rfl) : PI X tg (.Call (.Name "range" p) [a, b] [] pos) (TIf S w (smRg rg2 t)) := si_range2 hg hm ha hs hs2
theorem i_enum {elts : List Expr} {kk : Nat} {tpos : Pos} (hK : X.K = S.K) (hm : X.mg "enumerate" = none) (ha : PA X [a] (TAf S w t)) (hg : Gl X "enumerate" := by rfl) (hs : starEach [a] X.env = [(false, eval a X.env)] := by rfl) :
    PI X (.Tuple elts kk tpos) (.Call (.Name "enumerate" p) [a] [] pos) (TIf S w (smRg enumOf t)) := si_enum hK hg hm ha hs
theorem e_lc {tg elt iter : Expr} {ifs : List Expr} {scope : Scope} (own : List (Str × Nat)) {ix : List Nat} {as : D → Env' → Option Env'} {fi : SmA} {test elf : Sm} (hN : X.N.Nodup) (hi : PI X tg iter (TIf S w fi))
    (hg : ∀ (s : Shared) (H : Hp) (C : Addr) (cl : List (Str × Addr)) (fp : List Addr), PG (X.blk s H scope (compEnvC scope cl C X.env) fp) tg (TGf S ix as))
    (ht : ∀ (s : Shared) (H : Hp) (C : Addr) (cl : List (Str × Addr)) (fp : List Addr), PTs (X.blk s H scope (compEnvC scope cl C X.env) fp) ifs (TTf S wF test))
    (he : ∀ (s : Shared) (H : Hp) (C : Addr) (cl : List (Str × Addr)) (fp : List Addr), PE (X.blk s H scope (compEnvC scope cl C X.env) fp) elt (TEf S wF elf)) (ok : BlkOk X.N X.env.scope scope own := by exact blkOk_by (by rfl)) (hc : X.calm = true := by rfl) (hs : ∀ x, foldedSetIterable iter X.env x = pure x := by intro _; rfl) (hix : ∀ i ∈ ix, i ∈ own.map (·.2) := by decide) :
    PE X (.ListComp elt [⟨tg, iter, ifs, 0⟩] scope pos) (TEf S w (smLc (own.map (·.2)) as fi test elf)) := se_lc hc hN hi ok hg ht he hs hix
theorem s_setLc (i : Nat) {y : Str} {py spos : Pos} {tg elt iter : Expr} {ifs : List Expr} {scope : Scope} (own : List (Str × Nat)) {ix : List Nat} {as : D → Env' → Option Env'} {fi : SmA} {test elf : Sm} (hN : X.N.Nodup) (hi : PI X tg iter (TIf S w fi))
    (hg : ∀ (s : Shared) (H : Hp) (C : Addr) (cl : List (Str × Addr)) (fp : List Addr), PG (X.blk s H scope (compEnvC scope cl C X.env) fp) tg (TGf S ix as))
    (ht : ∀ (s : Shared) (H : Hp) (C : Addr) (cl : List (Str × Addr)) (fp : List Addr), PTs (X.blk s H scope (compEnvC scope cl C X.env) fp) ifs (TTf S wF test))
    (he : ∀ (s : Shared) (H : Hp) (C : Addr) (cl : List (Str × Addr)) (fp : List Addr), PE (X.blk s H scope (compEnvC scope cl C X.env) fp) elt (TEf S wF elf)) (ok : BlkOk X.N X.env.scope scope own := by exact blkOk_by (by rfl)) (hc : X.calm = true := by rfl) (hy : X.N[i]? = some y := by rfl) (hyl : X.env.scope.names.lookup y = some .local := by rfl)
    (hsw : swapsWith (.ListComp elt [⟨tg, iter, ifs, 0⟩] scope pos) (some (.Name y py)) spos.line X.env = pure true := by rfl) (hs : ∀ x, foldedSetIterable iter X.env x = pure x := by intro _; rfl) (hix : ∀ i ∈ ix, i ∈ own.map (·.2) := by decide) :
    PS X (.Assign [.Name y py] (.ListComp elt [⟨tg, iter, ifs, 0⟩] scope pos) spos) (TSf S w (ssAsg i (smLc (own.map (·.2)) as fi test elf))) := ss_setLc hc hN hy hyl hsw hi ok hg ht he hs hix
end
end EV

/-! EvQ: len(set(x)), list methods by data. -/
namespace EV
open PySem PySem.Spec PyProof.Rows L2

/-- the unlike ones, in order -/
def dedI : List Int → List Int → List Int
  | acc, [] => acc
  | acc, n :: r => dedI (if acc.any (fun k => decide (k = n)) = true then acc else acc ++ [n]) r
theorem dedI_eq : ∀ (l acc : List Int), dedI acc l = l.foldl step_dedup acc
  | [], acc => rfl
  | n :: r, acc => by
    unfold dedI
    rw [dedI_eq r, List.foldl_cons]
    congr 1
theorem firstMet_ded (ns : List Int) : firstMet (fun i => ns.getD i 0) ns.length = dedI [] ns := by
  rw [dedI_eq]
  unfold firstMet
  congr 1
  refine List.ext_getElem? fun i => ?_
  by_cases h : i < ns.length
  · rw [List.getElem?_map, List.getElem?_range h, List.getElem?_eq_getElem h]
    simp [h]
  · rw [List.getElem?_eq_none (by simpa using h), List.getElem?_eq_none (by omega)]
def pLenSet : D → Option (Bool × D)
  | .lst xs => match intsOf xs with
    | some ns => if Nat.ble ns.length 4000 = true then some (false, .int (dedI [] ns).length) else none
    | none => none
  | .tup xs => none
  | _ => none
section
variable {S : Sg} {w : XK} {X : Cx} {pos p p2 q apos : Pos} {a b c : Expr} {f g h : Sm} {t : SmA} {es : List Expr} {x : Str}
def tLenSetA (K : PySem.W.Frag) (ta : TE) : TE := fun σ H Q => ta σ H fun x H1 => ∃ (l : Addr) (ns : List Int), x = .ref l ∧ SqL K H1 l (ns.map V.int) ∧ ns.length ≤ 4000 ∧ Q (.int ((dedI [] ns).length : Nat)) H1
theorem pe_lenSetA {ta : TE} (hg : Gl X "len") (hm : X.mg "len" = none) (hg2 : Gl X "set") (hm2 : X.mg "set" = none) (ha : PE X a ta) (hc : X.calm = true) (na : starEach [a] X.env = (false, eval a X.env) :: starEach [] X.env) :
    PE X (.Call (.Name "len" p) [.Call (.Name "set" p2) [a] [] q] [] pos) (tLenSetA X.K ta) := by
  refine ⟨fun pins s σ H Q I h => ?_⟩
  refine Call_ (ld_blt I hg hm boot_len (PyProof.Rows.callWith_builtin1 (PyProof.Rows.args_cons ?_ rfl) rfl rfl))
  refine Call_ (ld_blt I hg2 hm2 boot_set (PyProof.Rows.callWith_type1 (PyProof.Rows.args_cons (thn (ha.run pins s σ H _ I h) fun v s1 ⟨x, H1, I1, r1, q1⟩ => PyProof.Rows.args_nil ?_) na) na rfl))
  obtain ⟨l, ns, rfl, hq, hl, q1⟩ := q1
  cases r1
  obtain ⟨its, r, pl, hz⟩ := I1.list hq
  have hlen : its.toArray.size = ns.length := by rw [List.size_toArray, ← r.length, List.length_map]
  refine call_set_list (I1.ok.hd hc) pl.isList (by simpa using RZ.intsAre_vals r) (by rw [hlen]; unfold scanBound; omega) fun h' tk hS hk => ?_
  refine PyProof.Rows.args_nil ?_
  rw [hlen, firstMet_ded] at hS
  obtain ⟨o, es, ep, t, ho, hex, hd, _, _, _, hf, hn⟩ := hS
  have I2 : Inv X pins σ H1 { s1 with heap := h', toks := tk } := I1.kept fun b o e => hk b o (Heap.lt_size e) e
  have hle : (dedI [] ns).length ≤ 4000 := by
    rw [← firstMet_ded]
    exact Nat.le_trans (firstMet_length_le _ _) hl
  exact call_len_set ho hex hd hf (by rw [hn] <;> omega) ⟨.int (dedI [] ns).length, H1, I2.tok _, ⟨_, by rw [hn]⟩, q1⟩
theorem e_lenSet (hK : X.K = S.K) (hm : X.mg "len" = none) (hm2 : X.mg "set" = none) (ha : PE X a (TEf S w f)) (hc : X.calm = true := by rfl) (hg : Gl X "len" := by rfl) (hg2 : Gl X "set" := by rfl) (na : starEach [a] X.env = (false, eval a X.env) :: starEach [] X.env := by rfl) :
    PE X (.Call (.Name "len" p) [.Call (.Name "set" p2) [a] [] q] [] pos) (TEf S w (smOp1 pLenSet f)) := by
  refine peI (pe_lenSetA hg hm hg2 hm2 ha hc na) fun σ H Q ⟨W, e, M, r, k⟩ => ⟨W, e, M, r, KE.bindF k fun own d e1 M1 W1 H1 v r1 f1 k1 => ?_⟩
  obtain ⟨own2, d2, e2, gv⟩ := KE.out1 k1
  unfold pLenSet at e2
  split at e2
  · split at e2
    · rename_i xs _ ns hn
      split at e2
      · rename_i hl
        cases e2
        obtain ⟨l, us, rfl, hu, lu⟩ := Rb.lst (.inl f1)
        refine ⟨l, ns, rfl, by rw [hK, ← lu.ints hn]; exact SqL.of hu, Nat.le_of_ble_eq_true hl, gv.now r1 (by simp only [Fz])⟩
      · cases e2
    · cases e2
  · cases e2
  · cases e2
end
end EV

/-! EvR: exceptions raised, caught and looked at; lambdas handed to a def that tries them. -/
namespace EV
open PySem PySem.Spec PyProof.Rows L2

/-! ### all but the tables stays -/
section
variable {S : Sg} {W : Wd} {σ : L2.St} {H H1 : Hp} {e : Env'} {M : Sto}
theorem Rel.ext1 (r : Rel S W σ H e M) (k : LamX.ExtN H H1) (t : LamX.Tabs S.T H1) : Rel S W σ H1 e M := by
  have st : Stays W H W H1 := ⟨fun a f => ⟨f, fun o h ht => k a o h ht⟩, fun _ _ h => h⟩
  refine ⟨r.len, fun i d h => ?_, fun i d h => ?_, r.inj, r.sl, fun n o h => ?_, ⟨r.nd.1, t⟩, fun a f => ?_, r.or_⟩
  · obtain ⟨v, h1, h2⟩ := r.sh i d h
    exact ⟨v, h1, h2.stays st⟩
  · obtain ⟨a, h1, h2⟩ := r.ow i d h
    exact ⟨a, h1, h2.stays st fun o h ht => k a o h ht⟩
  · obtain ⟨a, h1, h2⟩ := r.st n o h
    exact ⟨a, h1, h2.stays st fun o h ht => k a o h ht⟩
  · obtain ⟨⟨o, ho, ht⟩, h2⟩ := r.fr a f
    exact ⟨⟨o, k a o ho ht, ht⟩, h2⟩
theorem Post.ext1 (k : LamX.ExtN H H1) : Post W e σ H W e σ H1 :=
  ⟨fun a o h ht _ _ => k a o h ht, fun a h => nw_grow (fun o z ht => k a o z ht) h, fun _ h => h, fun _ h => .inl h, fun _ _ h => h, fun _ h => .inl h, fun _ h => .inl h⟩
/-- a frame without names -/
theorem Rel.blank (r : Rel S W [] H [] M) (σ : L2.St) : Rel S W σ H (List.replicate σ.length none) M := by
  have nn : ∀ {i : Nat} {s : Bool × D}, (List.replicate σ.length (none : Sl))[i]? ≠ some (some s) := fun {i s} h => by
    rw [List.getElem?_replicate] at h
    split at h <;> cases h
  have no : ∀ {a : Addr}, ¬ Own (List.replicate σ.length none) σ a := fun ⟨i, d, h, _⟩ => nn h
  exact ⟨by simp, fun i d h => absurd h nn, fun i d h => absurd h nn, fun i j d d' a h => absurd h nn, r.sl, r.st, r.nd, fun a f => ⟨(r.fr a f).1, (r.fr a f).2.1, no⟩, fun a h => absurd h no⟩
theorem no_blank {n : Nat} {a : Addr} : ¬ Own (List.replicate n none) σ a := fun ⟨i, d, h, _⟩ => by
  rw [List.getElem?_replicate] at h
  split at h <;> cases h
end

/-! ### with an exception in hand -/
def Sg.withX (S : Sg) (a : Addr) (dd : Option Addr) (fs : List (Str × V)) : Sg := { S with xp := some ⟨a, dd, fs⟩ }
mutual
def noX : D → Bool
  | .exn => false
  | .tup xs => noXL xs
  | .lst xs => noXL xs
  | .dct ks vs => noXL ks && noXL vs
  | _ => true
def noXL : List D → Bool
  | [] => true
  | d :: ds => noX d && noXL ds
end
section
variable {S : Sg} {W : Wd} {H : Hp} {a : Addr} {dd : Option Addr} {fs : List (Str × V)}
mutual
theorem Fz.toX (hn : S.xp = none) : ∀ {d : D} {v : V}, Fz S W H d v → Fz (S.withX a dd fs) W H d v
  | .non, v, h => by simp only [Fz] at h ⊢; exact h
  | .bl b, v, h => by simp only [Fz] at h ⊢; exact h
  | .int i, v, h => by simp only [Fz] at h ⊢; exact h
  | .str x, v, h => by simp only [Fz] at h ⊢; exact h
  | .tup xs, v, h => by
    simp only [Fz] at h ⊢
    obtain ⟨a, vs, e, t, l⟩ := h
    exact ⟨a, vs, e, t, FzL.toX hn l⟩
  | .lst xs, v, h => by
    simp only [Fz] at h ⊢
    obtain ⟨a, vs, e, t, l⟩ := h
    exact ⟨a, vs, e, t, FzL.toX hn l⟩
  | .dct ks xs, v, h => by
    simp only [Fz] at h ⊢
    obtain ⟨a, es, e, t, l1, l2⟩ := h
    exact ⟨a, es, e, t, FzL.toX hn l1, FzL.toX hn l2⟩
  | .fn n, v, h => by simp only [Fz] at h ⊢; exact h
  | .rf n, v, h => by simp only [Fz] at h ⊢; exact h
  | .scr, v, h => by simp only [Fz] at h ⊢; exact h
  | .exn, v, h => by
    simp only [Fz] at h
    obtain ⟨p, h1, _⟩ := h
    rw [hn] at h1; cases h1
theorem FzL.toX (hn : S.xp = none) : ∀ {ds : List D} {vs : List V}, FzL S W H ds vs → FzL (S.withX a dd fs) W H ds vs
  | [], vs, h => by simp only [FzL] at h ⊢; exact h
  | d :: ds, vs, h => by
    simp only [FzL] at h ⊢
    obtain ⟨v, r, e, h1, h2⟩ := h
    exact ⟨v, r, e, Fz.toX hn h1, FzL.toX hn h2⟩
end
mutual
theorem Fz.ofX : ∀ {d : D} {v : V}, noX d = true → Fz (S.withX a dd fs) W H d v → Fz S W H d v
  | .non, v, _, h => by simp only [Fz] at h ⊢; exact h
  | .bl b, v, _, h => by simp only [Fz] at h ⊢; exact h
  | .int i, v, _, h => by simp only [Fz] at h ⊢; exact h
  | .str x, v, _, h => by simp only [Fz] at h ⊢; exact h
  | .tup xs, v, p, h => by
    simp only [noX] at p
    simp only [Fz] at h ⊢
    obtain ⟨a, vs, e, t, l⟩ := h
    exact ⟨a, vs, e, t, FzL.ofX p l⟩
  | .lst xs, v, p, h => by
    simp only [noX] at p
    simp only [Fz] at h ⊢
    obtain ⟨a, vs, e, t, l⟩ := h
    exact ⟨a, vs, e, t, FzL.ofX p l⟩
  | .dct ks xs, v, p, h => by
    simp only [noX, Bool.and_eq_true] at p
    simp only [Fz] at h ⊢
    obtain ⟨a, es, e, t, l1, l2⟩ := h
    exact ⟨a, es, e, t, FzL.ofX p.1 l1, FzL.ofX p.2 l2⟩
  | .fn n, v, _, h => by simp only [Fz] at h ⊢; exact h
  | .rf n, v, _, h => by simp only [Fz] at h ⊢; exact h
  | .scr, v, _, h => by simp only [Fz] at h ⊢; exact h
  | .exn, v, p, h => by simp only [noX] at p; cases p
theorem FzL.ofX : ∀ {ds : List D} {vs : List V}, noXL ds = true → FzL (S.withX a dd fs) W H ds vs → FzL S W H ds vs
  | [], vs, _, h => by simp only [FzL] at h ⊢; exact h
  | d :: ds, vs, p, h => by
    simp only [noXL, Bool.and_eq_true] at p
    simp only [FzL] at h ⊢
    obtain ⟨v, r, e, h1, h2⟩ := h
    exact ⟨v, r, e, Fz.ofX p.1 h1, FzL.ofX p.2 h2⟩
end
theorem FsRel.toX (hn : S.xp = none) : ∀ {xs : List (Str × D)} {vs : List (Str × V)}, FsRel S W H xs vs → FsRel (S.withX a dd fs) W H xs vs
  | [], _, h => h
  | (x, d) :: r, vs, h => by
    obtain ⟨v, t, e, h1, h2⟩ := h
    exact ⟨v, t, e, h1.toX hn, FsRel.toX hn h2⟩
def noXF : List (Str × D) → Bool
  | [] => true
  | (_, d) :: r => noX d && noXF r
theorem FsRel.ofX : ∀ {xs : List (Str × D)} {vs : List (Str × V)}, noXF xs = true → FsRel (S.withX a dd fs) W H xs vs → FsRel S W H xs vs
  | [], _, _, h => h
  | (x, d) :: r, vs, p, h => by
    simp only [noXF, Bool.and_eq_true] at p
    obtain ⟨v, t, e, h1, h2⟩ := h
    exact ⟨v, t, e, h1.ofX p.1, FsRel.ofX p.2 h2⟩
def noXS : SO → Bool
  | .lst xs => noXL xs
  | .ins _ fs => noXF fs
theorem ObS.toX (hn : S.xp = none) {o : SO} {b : Addr} (h : ObS S W H o b) : ObS (S.withX a dd fs) W H o b := by
  cases o with
  | lst ds =>
    obtain ⟨vs, e, l⟩ := h
    exact ⟨vs, e, l.toX hn⟩
  | ins c fs =>
    obtain ⟨C, dx, vs, e1, e2, l⟩ := h
    exact ⟨C, dx, vs, e1, e2, l.toX hn⟩
theorem ObS.ofX {o : SO} {b : Addr} (p : noXS o = true) (h : ObS (S.withX a dd fs) W H o b) : ObS S W H o b := by
  cases o with
  | lst ds =>
    obtain ⟨vs, e, l⟩ := h
    exact ⟨vs, e, l.ofX p⟩
  | ins c fs =>
    obtain ⟨C, dx, vs, e1, e2, l⟩ := h
    exact ⟨C, dx, vs, e1, e2, l.ofX p⟩
theorem Ob.ofX {d : D} {b : Addr} (p : noX d = true) (h : Ob (S.withX a dd fs) W H d b) : Ob S W H d b := by
  cases d with
  | lst ds =>
    obtain ⟨vs, e, l⟩ := h
    simp only [noX] at p
    exact ⟨vs, e, l.ofX p⟩
  | dct ks vs =>
    obtain ⟨es, e, l1, l2⟩ := h
    simp only [noX, Bool.and_eq_true] at p
    exact ⟨es, e, l1.ofX p.1, l2.ofX p.2⟩
  | _ => exact h.elim
theorem Rel.toX (hn : S.xp = none) {M : Sto} (r : Rel S W [] H [] M) : Rel (S.withX a dd fs) W [] H [] M :=
  ⟨rfl, fun i d h => by simp at h, fun i d h => by simp at h, fun i j d d' b h => by simp at h, r.sl, fun n o h => (r.st n o h).imp fun b h => ⟨h.1, h.2.toX hn⟩, r.nd, r.fr, fun b h => absurd h own_nil⟩
theorem Rel.ofX {M : Sto} (p : M.all noXS = true) (r : Rel (S.withX a dd fs) W [] H [] M) : Rel S W [] H [] M :=
  ⟨rfl, fun i d h => by simp at h, fun i d h => by simp at h, fun i j d d' b h => by simp at h, r.sl, fun n o h => (r.st n o h).imp fun b h2 => ⟨h2.1, h2.2.ofX (List.all_eq_true.mp p o (List.mem_of_getElem? h))⟩, r.nd, r.fr, fun b h => absurd h own_nil⟩
theorem Res.ofX {H0 : Hp} {own : Bool} {d : D} {v : V} (p : noX d = true) (q : Res (S.withX a dd fs) W [] [] [] [] H0 H own d v) : Res S W [] [] [] [] H0 H own d v := by
  cases own with
  | false => exact Fz.ofX p q
  | true =>
    obtain ⟨b, e1, ob, e3⟩ := q
    exact ⟨b, e1, ob.ofX p, e3⟩
end

/-! ### an except's suite -/
/-- n names, the exception's is i; the suite returns -/
def runX (n i : Nat) (suite : Exn → SmS) (x : Exn) (M : Sto) : Option (Out × Sto) := match suite x ((List.replicate n none).set i (some (false, .exn))) M with
  | some (.rt own d, _, M') => if (noX d && M'.all noXS) = true then some (.ok own d, M') else none
  | _ => none
section
variable {S : Sg} {W : Wd} {H : Hp} {M : Sto}
theorem suite_run {w : XK} {n i : Nat} {suite : Exn → SmS} {x : Exn} {cls : Value} {dd : Option Addr} {Q : VK} {a : Addr} {σ : L2.St} {nx : L2.St → Hp → Prop} (hn : S.xp = none) (hσ : σ.length = n) (r : Rel S W [] H [] M) (ex : ExR S W x cls dd H) (k : KE S w W [] [] H (upE (runX n i suite x M) []) Q) :
    ∃ e, Rel (S.withX a dd (fsV x.fs)) W (σ.set i (some (.ref a))) H e M ∧ KS (S.withX a dd (fsV x.fs)) wF W e (σ.set i (some (.ref a))) H (suite x e M) { nx := nx, rt := Q } := by
  subst hσ
  have r1 : Rel (S.withX a dd (fsV x.fs)) W σ H (List.replicate σ.length none) M := (r.toX hn).blank σ
  have fx : Fz (S.withX a dd (fsV x.fs)) W H .exn (.ref a) := by
    simp only [Fz]
    refine ⟨⟨a, dd, fsV x.fs⟩, rfl, rfl, ?_⟩
    obtain ⟨C, _, _, h | ⟨b, h1, h2, h3, _⟩⟩ := ex
    · exact .inl (by show fsV x.fs = []; rw [h.1]; rfl)
    · exact .inr ⟨b, h1, h2, h3⟩
  have r2 := r1.store (i := i) (own := false) (d := .exn) (v := .ref a) (e₀ := List.replicate σ.length none) (σ₀ := σ) (H₀ := H) fx
  refine ⟨_, r2, ?_⟩
  unfold runX at k
  match hs : suite x ((List.replicate σ.length none).set i (some (false, .exn))) M, k with
  | some (.rt own d, e', M'), k =>
    intro W' H' σ' v r' p q
    by_cases hx : (noX d && M'.all noXS) = true
    · simp only [hx, if_true] at k
      simp only [Bool.and_eq_true] at hx
      have own0 : ∀ b, Own ((List.replicate σ.length none).set i (some (false, D.exn))) (σ.set i (some (.ref a))) b → Own [] [] b := fun b z => by
        rcases own_store z with ⟨h, _⟩ | z
        · cases h
        · exact absurd z no_blank
      have p' : Post W [] [] H W' [] [] H' := p.re own0 (fun b z => absurd z own_nil)
      refine k W' H' v (r'.leave.ofX hx.2) p' (Res.ofX (a := a) (dd := dd) (fs := fsV x.fs) hx.1 ?_)
      cases own with
      | false => exact q
      | true =>
        obtain ⟨b, e1, e2, e3, e4, e5, _⟩ := q
        exact ⟨b, e1, e2, .inl (e3.resolve_right fun z => own_nil (own0 b z)), e4, e5, own_nil⟩
    · simp only [hx] at k
      exact k.elim
  | some (.nx, e', M'), k => exact k.elim
  | some (.exc y, e', M'), k => exact k.elim
  | none, k => exact k.elim
end

/-! ### raise -/
section
variable {S : Sg} {w : XK} {X : Cx} {pos p p2 apos pos' : Pos} {a b c : Expr} {f g h : Sm} {t : SmA} {es : List Expr} {x : Str}
/-- the wish of a run is taken at every slot -/
def TkR (X : Cx) (w : XK) : Prop := Takes X (fun cls d _ H => w cls d H)
theorem tkR_body {mg : Str → Option Value} {base : Heap} {N : List Str} {qual : Str} {scope : Scope} {fad : Addr} {cdv : Value} {A : Around} {outer : List Env} {s : Shared} {H : Hp} {E : XK} : TkR (Xb S mg base N qual scope fad cdv A outer s H E) E := takes_of rfl rfl rfl rfl
theorem pmk_own0 {C : Addr} {bmB : List Value} {B newId initId : String} (F : ExcBaseFacts B newId initId bmB) (q : PySem.W.excIn X.K C bmB newId = true) (gC : X.mg x = some (.ref C)) (kC : PySem.W.keepIn X.K (.ref C) = true) (r : Raises X (.ref C)) (hg : Gl X x)
    (hdb : (x == ("__debug__" : Str)) = false) : PMk X (.Call (.Name x p) [] [] pos) (fun _ H Q => Q (.ref C) none H) := by
  intro pins s σ H Q I h
  refine wpAny_Call_Name_kw (ld_glob I hg gC ?_ hdb)
  refine PySem.W.callWith_K0 I.kIn kC ?_
  show wpAny _ _ (call (.ref C) []) _ _ _
  obtain ⟨bm, N, nm, qn, bs, hdct, sn, sub, ab, col, dd, k0, k1, k2, k3, k5, mN, hC, hN, hni, T⟩ := exc_obj I.kIn q
  refine wpAny_call_exc_subT F T hC hN hni (fun h' e hm => ?_) (by show 0 ≤ sizeLine; exact Nat.zero_le _)
  exact mk_of I hm r h (I.hok.gone hm.new)
/-- an own exception's class, without an own __init__ -/
structure XcF (S : Sg) (mg : Str → Option Value) (x : Str) (c : Nat) : Prop where
  ex : ∃ C, S.fa c = some C ∧ mg x = some (.ref C) ∧ PySem.W.keepIn S.K (.ref C) = true ∧ PySem.W.excIn S.K C He.veBase "ValueError.__new__" = true ∧ PySem.W.subIn S.K (.ref C) (.type "BaseException") = some true ∧ PySem.W.typeIn S.K (.ref C) = some (.type "type")
def ssRaise (c : Nat) (fs : List (Str × D)) : SmS := fun e M => some (.exc ⟨c, fs⟩, e, M)
theorem s_raise0 {c : Nat} (F : XcF S X.mg x c) (tk : TkR X w) (hK : X.K = S.K := by rfl) (hc : X.calm = true := by rfl) (hg : Gl X x := by rfl) (hdb : (x == ("__debug__" : Str)) = false := by decide) :
    PS X (.Raise (some (.Call (.Name x p) [] [] pos)) none pos') (TSf S w (ssRaise c [])) := by
  obtain ⟨C, h1, h2, h3, h4, h5, h6⟩ := F.ex
  refine psI (ps_raise hc tk (pmk_own0 (C := C) PySem.F.excBase_ValueError (by rw [hK]; exact h4) h2 (by rw [hK]; exact h3) (raises_own (by rw [hK]; exact h5) (by rw [hK]; exact h6)) hg hdb)) fun D σ H ⟨W, e, M, r, k⟩ => ?_
  exact k W H σ (.ref C) none r Post.refl ⟨C, h1, rfl, .inl ⟨rfl, rfl⟩⟩
end
end EV

/-! EvS: what a suite asks of its exception; told(lambda: ..). -/
namespace EV
open PySem PySem.Spec PyProof.Rows L2

/-- the exceptions' classes: 0 .. n - 1, the base is 0 -/
structure ExcTab (S : Sg) (n : Nat) (flds : List Str) : Prop where
  cl : ∀ c, c < n → ∃ D, S.fa c = some D ∧ ExcC S.K D ∧ XfC S.K D ∧ ∀ f ∈ flds, PySem.W.findIn S.K (.ref D) f = some none
  is : ∀ c t D E, c < n → t < n → S.fa c = some D → S.fa t = some E → PySem.W.kitOne S.K (.ref D) (.ref E) = some (c == t || t == 0)
  ex : ∀ c D E, c < n → S.fa c = some D → S.fa 0 = some E → PySem.W.exmOne S.K (.ref D) (.ref E) = some true
def rIsE' (K : PySem.W.Frag) (D a : Addr) (d : Option Addr) : List V → Hp → VK → Prop := fun xs H Q => ∃ (c : V) (cv : Value) (b : Bool), xs = [.ref a, c] ∧ (∀ u, RelV c u → u = cv) ∧ PySem.W.kitOne K (.ref D) cv = some b ∧ (d = none ∨ ∃ dd fs, d = some dd ∧ H dd = some (.xd fs)) ∧ Q (.bl b) H
theorem call_isE' {X : Cx} {a D : Addr} {oe : Obj} {d : Option Addr} {pn : List (Addr × Obj)} (C : ExcC X.K D) (hz : Zc (.ref D) d oe) (hf : ∃ vs, oe.data = .fields vs) : CallR (X.suite a ((a, oe) :: pn)) (.builtin "isinstance") (rIsE' X.K D a d) := by
  intro pins s σ H xs us Q I r h
  obtain ⟨c, cv, b, rfl, hcv, e, hd, q⟩ := h
  cases r with
  | cons rx rr =>
    cases rr with
    | cons rt rr =>
      cases rr
      cases rx
      have ec := hcv _ rt
      subst ec
      obtain ⟨hget, _⟩ := I.pin (a, oe) (List.mem_append.mpr (.inl List.mem_cons_self))
      obtain ⟨vs, hv⟩ := hf
      have hcl : (PySem.W.clsIn X.K D).isSome = true := by obtain ⟨cd, hc, _⟩ := PySem.W.any_some C.hd; rw [hc]; rfl
      have J : ∃ od, PySem.W.InstAt s.heap a oe D od := by
        obtain ⟨oc, odd, oda, osl⟩ := oe
        obtain ⟨h1, h2⟩ := hz
        dsimp only at h1 h2 hv
        subst h1 h2 hv
        rcases hd with hd | ⟨dd, fs, hd, hH⟩
        · subst hd
          exact ⟨none, hget, rfl, rfl, trivial⟩
        · subst hd
          have hx : ObjOk X.prog X.w H s.heap dd (.xd fs) := I.hok dd _ hH
          obtain ⟨mA, hns, hr⟩ := hx
          obtain ⟨od, ho, hl⟩ := lookIn_ns hns
          exact ⟨some od, hget, rfl, rfl, ho⟩
      obtain ⟨od, J⟩ := J
      exact PySem.W.kia_one (PySem.W.kitx_exc hcl C.hg C.hk C.hs C.ha C.hn C.ht C.hm) I.kIn J e (fun z => nomatch z) fun tk => ⟨.bl b, H, I.kept (t' := tk) fun _ _ z => z, rfl, q⟩
section
variable {S : Sg} {w : XK} {X : Cx} {pos p p2 p3 apos pos' : Pos} {x y : Str} {a Dc : Addr} {oe : Obj} {d : Option Addr} {pn : List (Addr × Obj)} {n : Nat} {flds : List Str}
def hasX (e : Env') (i : Nat) : Bool := match e[i]? with
  | some (some (false, .exn)) => true
  | _ => false
theorem hasX_of {e : Env'} {i : Nat} (h : hasX e i = true) : e[i]? = some (some (false, .exn)) := by
  unfold hasX at h
  split at h
  · assumption
  · cases h
def smIsE (n i : Nat) (z : Exn) (t : Nat) : Sm := fun e M => if (hasX e i && Nat.blt z.c n && Nat.blt t n) = true then some (.ok false (.bl (z.c == t || t == 0)), e, M) else none
theorem e_isE (i t : Nat) {z : Exn} (T : ExcTab S n flds) (hD : S.fa z.c = some Dc) (hz : Zc (.ref Dc) d oe) (hf : ∃ vs, oe.data = .fields vs) (hd : z.fs = [] → d = none) (hy : ∃ E, S.fa t = some E ∧ X.mg y = some (.ref E)) (hm : X.mg "isinstance" = none)
    (hK : X.K = S.K := by rfl) (hN : X.N[i]? = some x := by rfl) (hv : Vis X.env.scope x := by first | exact Or.inl rfl | exact Or.inr (Or.inl rfl) | exact Or.inr (Or.inr rfl)) (hdd : (x == ("__debug__" : Str)) = false := by decide) (hcd : (x == ("__classdict__" : Str)) = false := by decide)
    (hgy : Gl X y := by rfl) (hdy : (y == ("__debug__" : Str)) = false := by decide) (hg : Gl X "isinstance" := by rfl)
    (he : starEach [.Name x p2, .Name y p3] X.env = (false, eval (.Name x p2) X.env) :: starEach [.Name y p3] X.env := by rfl) (hpl : (backTo pos (starEach [.Name y p3] X.env)).any (·.1) = false := by rfl) :
    PE (X.suite a ((a, oe) :: pn)) (.Call (.Name "isinstance" p) [.Name x p2, .Name y p3] [] pos) (TEf (S.withX a d (fsV z.fs)) w (smIsE n i z t)) := by
  obtain ⟨E, hE, hyE⟩ := hy
  by_cases hn : z.c < n ∧ t < n
  · obtain ⟨D', hD', xc, _, _⟩ := T.cl z.c hn.1
    rw [hD] at hD'
    cases hD'
    have xc' : ExcC X.K Dc := by rw [hK]; exact xc
    refine peI (pe_callB (X := X.suite a ((a, oe) :: pn)) (call_isE' xc' hz hf) hg hm PyProof.Rows.boot_isinstance (pa_cons (pe_var hN hv hdd hcd) (pa_cons (pe_glob (v := .ref E) hgy hyE rfl hdy) pa_nil rfl) he) (by decide) (by decide) he hpl) fun σ H Q ⟨W, e, M, r, k⟩ => ?_
    unfold smIsE at k
    split at k
    · rename_i h1
      simp only [Bool.and_eq_true] at h1
      obtain ⟨v, hv1, fv⟩ := r.sh i _ (hasX_of h1.1.1)
      simp only [Fz] at fv
      obtain ⟨q, hq, rfl, hfs⟩ := fv
      have hq : (⟨a, d, fsV z.fs⟩ : Xp) = q := Option.some.inj hq
      subst hq
      refine ⟨_, hv1, .ref E, .ref E, z.c == t || t == 0, rfl, fun u hu => hu, by rw [hK]; exact T.is z.c t Dc E hn.1 hn.2 hD hE, ?_, k W H _ r Post.refl (by simp only [Res, Fz])⟩
      rcases hfs with hfs | ⟨dd, h2, h3, h4⟩
      · refine .inl (hd ?_)
        have hfs : fsV z.fs = [] := hfs
        unfold fsV at hfs
        exact List.map_eq_nil_iff.mp hfs
      · exact .inr ⟨dd, _, h2, h4⟩
    · exact k.elim
  · refine ⟨fun pins s σ H Q I ⟨W, e, M, r, k⟩ => ?_⟩
    unfold smIsE at k
    split at k
    · rename_i h1
      simp only [Bool.and_eq_true] at h1
      exact absurd ⟨Nat.le_of_ble_eq_true h1.1.2, Nat.le_of_ble_eq_true h1.2⟩ hn
    · exact k.elim
def scal : D → Bool
  | .non => true
  | .bl _ => true
  | .int _ => true
  | .str _ => true
  | _ => false
def fldOf (fs : List (Str × D)) (f : Str) : Option D := match fs with
  | [] => none
  | (g, d) :: r => if f == g then some d else fldOf r f
theorem fldOf_eq {f : Str} : ∀ {fs : List (Str × D)} {d : EV.D}, fldOf fs f = some d → (fsV fs).lookup f = some (scV d)
  | [], _, h => by cases h
  | (g, d') :: r, d, h => by
    unfold fldOf at h
    show List.lookup f ((g, scV d') :: fsV r) = _
    rw [List.lookup_cons]
    split at h
    · rename_i hg
      cases h
      rw [hg]
    · rename_i hg
      rw [Bool.eq_false_iff.mpr hg]
      exact fldOf_eq h
theorem scal_fz {S : Sg} {W : Wd} {H : Hp} {d : D} (h : EV.scal d = true) : Fz S W H d (scV d) := by
  cases d <;> first | (simp only [EV.scal] at h; cases h; done) | (simp only [Fz, scV])
def smXf (n i : Nat) (z : Exn) (f : Str) : Sm := fun e M => if (hasX e i && Nat.blt z.c n) = true then match fldOf z.fs f with
  | some d => if EV.scal d = true then some (.ok false d, e, M) else none
  | none => none
  else none
theorem e_xf (i : Nat) {f : Str} {z : Exn} (T : ExcTab S n flds) (hfl : f ∈ flds) (hD : S.fa z.c = some Dc) (hz : Zc (.ref Dc) d oe) (hf : ∃ vs, oe.data = .fields vs)
    (hK : X.K = S.K := by rfl) (hN : X.N[i]? = some x := by rfl) (hv : Vis X.env.scope x := by first | exact Or.inl rfl | exact Or.inr (Or.inl rfl) | exact Or.inr (Or.inr rfl)) (hdd : (x == ("__debug__" : Str)) = false := by decide) (hcd : (x == ("__classdict__" : Str)) = false := by decide)
    (hb : attributeBase (.Name x p2) f X.env (eval (.Name x p2) X.env) = eval (.Name x p2) X.env := by rfl) :
    PE (X.suite a ((a, oe) :: pn)) (.Attribute (.Name x p2) f pos) (TEf (S.withX a d (fsV z.fs)) w (smXf n i z f)) := by
  by_cases hn : z.c < n
  · obtain ⟨D', hD', _, xf, hfd⟩ := T.cl z.c hn
    rw [hD] at hD'
    cases hD'
    refine peI (pe_xf (X := X) (C := Dc) (d := d) (by rw [hK]; exact xf) (by rw [hK]; exact hfd f hfl) hz hf (pe_var (X := X.suite a ((a, oe) :: pn)) hN hv hdd hcd) hb) fun σ H Q ⟨W, e, M, r, k⟩ => ?_
    unfold smXf at k
    split at k
    · rename_i h1
      simp only [Bool.and_eq_true] at h1
      split at k
      · rename_i dv hdv
        split at k
        · rename_i hs
          obtain ⟨v, hv1, fv⟩ := r.sh i _ (hasX_of h1.1)
          simp only [Fz] at fv
          obtain ⟨q, hq, rfl, hfs⟩ := fv
          have hq : (⟨a, d, fsV z.fs⟩ : Xp) = q := Option.some.inj hq
          subst hq
          refine ⟨_, hv1, rfl, rfl, ?_⟩
          have hl := fldOf_eq hdv
          rcases hfs with hfs | ⟨dd, h2, h3, h4⟩
          · have hfs : fsV z.fs = [] := hfs
            rw [hfs] at hl; cases hl
          · exact ⟨dd, _, scV dv, h2, h4, hl, k W H _ r Post.refl (scal_fz hs)⟩
        · exact k.elim
      · exact k.elim
    · exact k.elim
  · refine ⟨fun pins s σ H Q I ⟨W, e, M, r, k⟩ => ?_⟩
    unfold smXf at k
    split at k
    · rename_i h1
      simp only [Bool.and_eq_true] at h1
      exact absurd (Nat.le_of_ble_eq_true h1.2) hn
    · exact k.elim
end

/-! ### told(lambda: ..) -/
/-- by the run of what is told: what is made of its value, of its exception -/
def smTold (n i : Nat) (suite : Exn → SmS) (onV : Bool → D → Option (Bool × D)) (f : Sm) : Sm := fun e M => match f e M with
  | none => none
  | some (.ok own d, e', M') => out1 (onV own d) e' M'
  | some (.exc x, e', M') => upE (runX n i suite x M') e'
/-- the suite may be asked with this exception -/
def SuiteOK (S : Sg) (nE n i : Nat) (suite : Exn → SmS) (cls : Value) (d : Option Addr) (H : Hp) (Q : VK) : Prop :=
  ∃ (x : Exn) (W : Wd) (M : Sto) (w : XK), x.c < nE ∧ Rel S W [] H [] M ∧ ExR S W x cls d H ∧ KE S w W [] [] H (upE (runX n i suite x M) []) Q
def TTw (S : Sg) (nE n i : Nat) (suite : Exn → SmS) (QA : V → Hp → VK → Prop) : (XK → Hp → VK → Prop) → Hp → VK → Prop := fun tl H Q =>
  ∃ w : XK, tl w H (fun v H' => QA v H' Q) ∧ ∀ cls d H', w cls d H' → SuiteOK S nE n i suite cls d H' Q
theorem takes_len {X : Cx} {W : WX} (t : Takes X W) : Takes X (fun cls d σ H => σ.length = X.N.length → W cls d σ H) := fun u s' ⟨a, B, sI, pins, σ, H, cls, d, e, I, nb, up, sky, na, os, ag, w⟩ =>
  t u s' ⟨a, B, sI, pins, σ, H, cls, d, e, I, nb, up, sky, na, os, ag, w I.len⟩
theorem told_of {S : Sg} {w : XK} {nE n i : Nat} {suite : Exn → SmS} {onV : Bool → D → Option (Bool × D)} {QA : V → Hp → VK → Prop} {f : Sm} {σ : L2.St} {H : Hp} {Q : VK}
    (hA : ∀ {W W' : Wd} {e e' : Env'} {H H' : Hp} {M' : Sto} {own own' : Bool} {d d' : D} {v : V}, onV own d = some (own', d') → KE S w W e σ H (some (.ok own' d', e', M')) Q → Rel S W' σ H' e' M' → Post W e σ H W' e' σ H' → Res S W' e' σ e σ H H' own d v → QA v H' Q)
    (hx : ∀ e M x e' M', f e M = some (.exc x, e', M') → (runX n i suite x M').isSome = true → x.c < nE) (z : TEf S w (smTold n i suite onV f) σ H Q) : LamX.tLam S.T (TTw S nE n i suite QA) (fun E => TEf S E f) σ H Q := by
  obtain ⟨W, e, M, r, k⟩ := z
  refine ⟨r.nd.2, fun H1 ex tb => ⟨fun cls d H' => SuiteOK S nE n i suite cls d H' Q, ⟨W, e, M, r.ext1 ex tb, ?_⟩, fun _ _ _ h => h⟩⟩
  unfold smTold at k
  match hf : f e M, k with
  | none, k => exact k.elim
  | some (.ok own d, e', M'), k =>
    intro W' H' v r' p q
    have k : KE S w W e σ H (out1 (onV own d) e' M') Q := k
    match ho : onV own d, k with
    | none, k => exact k.elim
    | some (own', d'), k => exact hA ho k r' ((Post.ext1 ex).trans p) (q.shift (Post.ext1 (W := W) ex))
  | some (.exc x, e', M'), k =>
    intro W' H' cls dx r' p q
    have k : KE S w W e σ H (upE (runX n i suite x M') e') Q := k
    have hs : (runX n i suite x M').isSome = true := by
      cases hr : runX n i suite x M' with
      | none => rw [hr] at k; exact k.elim
      | some _ => rfl
    exact ⟨x, W', M', w, hx e M x e' M' hf hs, r'.leave, q, (k.shift ((Post.ext1 ex).trans p)).call r'⟩
section
variable {S : Sg} {X : Cx} {nE i : Nat} {flds : List Str} {Ng : List Str} {x a ne er q st : Str} {sg : Scope} {g CS : Addr} {cdg : Value} {j : Nat} {p1 p2 p3 p4 p7 p8 p9 p10 : Pos} {b₀ : Stmt} {suite : List Stmt} {sx : Exn → SmS}
/-- the def's context -/
abbrev Xg (X : Cx) (Ng : List Str) (x : Str) (sg : Scope) (g : Addr) (cdg : Value) (s : Shared) (H : Hp) : Cx := (cxOf C8.CX0 X.prog X.w X.K X.mg X.base Ng x sg g cdg X.A X.stack s H C8.E0).nox
/-- the suite's rules, for each exception -/
def SuRules (S : Sg) (X : Cx) (Ng : List Str) (x : Str) (sg : Scope) (g : Addr) (cdg : Value) (b : List Stmt) (sx : Exn → SmS) : Prop := ∀ (s : Shared) (H : Hp) (a : Addr) (oe : Obj) (d : Option Addr) (pn : List (Addr × Obj)) (z : Exn) (Dc : Addr),
  Zc (.ref Dc) d oe → (∃ vs, oe.data = .fields vs) → S.fa z.c = some Dc → (z.fs = [] → d = none) → PSs ((Xg X Ng x sg g cdg s H).suite a ((a, oe) :: pn)) b (TSf (S.withX a d (fsV z.fs)) wF (sx z))
/-- a suite's reading -/
def tSu (S : Sg) (sx : Exn → SmS) (a : Addr) (cls : Value) (d : Option Addr) : TS := fun D σ H => ∃ (z : Exn) (Dc : Addr), cls = .ref Dc ∧ S.fa z.c = some Dc ∧ (z.fs = [] → d = none) ∧ TSf (S.withX a d (fsV z.fs)) wF (sx z) D σ H
theorem su_of {b : List Stmt} (h : SuRules S X Ng x sg g cdg b sx) (s : Shared) (H : Hp) (a : Addr) (oe : Obj) (cls : Value) (d : Option Addr) (pn : List (Addr × Obj)) (hz : Zc cls d oe) (hf : ∃ vs, oe.data = .fields vs) : PSs ((Xg X Ng x sg g cdg s H).suite a ((a, oe) :: pn)) b (tSu S sx a cls d) :=
  ⟨fun pins s' σ H' D I ⟨z, Dc, e1, e2, e3, e4⟩ => by subst e1; exact (h s H a oe d pn z Dc hz hf e2 e3).run pins s' σ H' D I e4⟩
/-- the wish within the try: what the suite makes of it -/
theorem wish_of {Q : VK} {nx : L2.St → Hp → Prop} {n : Nat} (T : ExcTab S nE flds) (hn : S.xp = none) (hCS : S.fa 0 = some CS) (hK : X.K = S.K) {cls : Value} {d : Option Addr} {σ : L2.St} {H : Hp} {Wout : WX} {bk ct : L2.St → Hp → Prop} (hl : σ.length = n) (h : SuiteOK S nE n i sx cls d H Q) :
    wAs X.K (.ref CS) i (tSu S sx) Wout { nx := nx, rt := Q, bk := bk, ct := ct } cls d σ H := by
  obtain ⟨z, W, M, w, hc, r, ex, k⟩ := h
  obtain ⟨C, h1, h2, h3⟩ := id ex
  subst h2
  refine ⟨true, by rw [hK]; exact T.ex z.c C CS hc h1 hCS, fun _ a _ => ?_, fun z => by cases z⟩
  refine ⟨z, C, rfl, h1, fun hfs => ?_, ?_⟩
  · rcases h3 with h3 | h3
    · exact h3.2
    · obtain ⟨b, e1, e2, e3, e4⟩ := h3
      exact absurd hfs e4
  · obtain ⟨e, r2, k2⟩ := suite_run (i := i) (a := a) (nx := fun σ' H' => nx (σ'.set i none) H') hn hl r ex k
    exact ⟨W, e, M, r2, k2⟩
/-- try: a() / except er as ne: suite, then return st -/
theorem givesA (T : ExcTab S nE flds) (hn : S.xp = none) (hCS : S.fa 0 = some CS) (hK : X.K = S.K) (hN : Ng.Nodup) (hi : Ng[i]? = some ne) (hln : sg.names.lookup ne = some .local) (hge : sg.names.lookup er = some .globalImplicit) (hme : X.mg er = some (.ref CS)) (hde : (er == ("__debug__" : Str)) = false)
    (h0 : ∀ f : Addr, (L2.start Ng [V.ref f])[0]? = some (some (V.ref f))) (hsw : ∀ (s : Shared) (H : Hp), swapsWith (.Call (.Name a p1) [] [] p2) none p3.line (Xg X Ng x sg g cdg s H).env = pure false) (hsu : SuRules S X Ng x sg g cdg (b₀ :: suite) sx) :
    LamX.GivesTo X Ng x sg g cdg [.Try [.Expr (.Call (.Name a p1) [] [] p2) p3] [.ExceptHandler (some (.Name er p4)) (some ne) (b₀ :: suite) p7] [] [] p8, .Return (some (.Constant (.str st) j p9)) p10] a q (TTw S nE Ng.length i sx (fun _ H' Q => Q (.str st) H')) := by
  intro f c' s H Q tl act hc ⟨w, h1, h3⟩
  have hgl : Gl (Xg X Ng x sg g cdg s H) er := hge
  refine ⟨_, pss_cons (ps_try_as (X := Xg X Ng x sg g cdg s H) (c := .ref CS) (Wout := fun _ _ _ _ => False)
      (tb := fun W D σ H => ∃ E : XK, (∀ cls d σ' H', E cls d H' → σ'.length = Ng.length → W cls d σ' H') ∧ σ[0]? = some (some (.ref f)) ∧ H c' = some (LamX.CodeO c' q) ∧ tl E H (fun _ H' => D.nx σ H'))
      rfl rfl hN hi hln ⟨hgl, hde, .inl hme⟩ LamX.takes0 (fun W pn xe tk _ => ?_) (fun a oe cls d pn hz hf => su_of hsu s H a oe cls d pn hz hf)) (pss_one (ps_ret pe_str)), ?_⟩
  · refine ⟨fun pins s' σ H' D I h' => ?_⟩
    obtain ⟨E, hW, e1, e2, e3⟩ := h'
    have hp := act (fun cls d σ H => σ.length = Ng.length → W cls d σ H) pn xe E p1 p2 (takes_len tk) (fun cls d σ' H' z hl => hW cls d σ' H' z hl)
    have hq := pss_one (ps_expr (pos := p3) hp (hsw s H))
    exact hq.run pins s' σ H' D I ⟨e1, e2, e3⟩
  · exact ⟨w, fun cls d σ' H' z hl => wish_of T hn hCS hK hl (h3 cls d H' z), h0 f, hc, h1⟩
/-- try: return a() / except er as ne: suite -/
theorem givesB (T : ExcTab S nE flds) (hn : S.xp = none) (hCS : S.fa 0 = some CS) (hK : X.K = S.K) (hN : Ng.Nodup) (hi : Ng[i]? = some ne) (hln : sg.names.lookup ne = some .local) (hge : sg.names.lookup er = some .globalImplicit) (hme : X.mg er = some (.ref CS)) (hde : (er == ("__debug__" : Str)) = false)
    (h0 : ∀ f : Addr, (L2.start Ng [V.ref f])[0]? = some (some (V.ref f))) (hsu : SuRules S X Ng x sg g cdg (b₀ :: suite) sx) :
    LamX.GivesTo X Ng x sg g cdg [.Try [.Return (some (.Call (.Name a p1) [] [] p2)) p3] [.ExceptHandler (some (.Name er p4)) (some ne) (b₀ :: suite) p7] [] [] p8] a q (TTw S nE Ng.length i sx (fun v H' Q => Q v H')) := by
  intro f c' s H Q tl act hc ⟨w, h1, h3⟩
  have hgl : Gl (Xg X Ng x sg g cdg s H) er := hge
  refine ⟨_, pss_one (ps_try_as (X := Xg X Ng x sg g cdg s H) (c := .ref CS) (Wout := fun _ _ _ _ => False)
      (tb := fun W D σ H => ∃ E : XK, (∀ cls d σ' H', E cls d H' → σ'.length = Ng.length → W cls d σ' H') ∧ σ[0]? = some (some (.ref f)) ∧ H c' = some (LamX.CodeO c' q) ∧ tl E H D.rt)
      rfl rfl hN hi hln ⟨hgl, hde, .inl hme⟩ LamX.takes0 (fun W pn xe tk _ => ?_) (fun a oe cls d pn hz hf => su_of hsu s H a oe cls d pn hz hf)), ?_⟩
  · refine ⟨fun pins s' σ H' D I h' => ?_⟩
    obtain ⟨E, hW, e1, e2, e3⟩ := h'
    have hp := act (fun cls d σ H => σ.length = Ng.length → W cls d σ H) pn xe E p1 p2 (takes_len tk) (fun cls d σ' H' z hl => hW cls d σ' H' z hl)
    exact (pss_one (ps_ret (pos := p3) hp)).run pins s' σ H' D I ⟨e1, e2, e3⟩
  · exact ⟨w, fun cls d σ' H' z hl => wish_of T hn hCS hK hl (h3 cls d H' z), h0 f, hc, h1⟩
end
end EV

/-! EvT: told(lambda: ..) as an expression; a def whose code object is known. -/
namespace EV
open PySem PySem.Spec PyProof.Rows L2

/-- f's code object is cdv -/
def CodeIs (K : PySem.W.Frag) (f : Addr) (cdv : Value) : Prop := ∃ (oc : Value) (od : Option Addr) (fd : FuncData) (sl : Array (Option Value)), K.lookup f = some ⟨oc, od, .func fd, sl⟩ ∧ fd.code = cdv
section
variable {S : Sg} {mg : Str → Option Value} {base : Heap}
theorem fn_okC {x qual : Str} {params : Arguments} {body : List Stmt} {scope : Scope} {fd : FuncData} {N ps : List Str} {k : Nat} {fad : Addr} {sm : SmS} (F : FunD S.K x qual params body scope [] [] fad fd) (Sc : FnScope N ps scope)
    (hb : ∀ (cdv : Value) (A : Around) (outer : List Env) (s : Shared) (H : Hp) (E : XK), CodeIs S.K fad cdv → Room k (A.deeper (envOfC qual scope s.heap.objs.size fad cdv)) → PSs (Xb S mg base N qual scope fad cdv A outer s H E) body (TSf S E sm)) :
    FnOk S.P S.w S.K mg base (CX S.P S.w) (k + 1) fad fd ps (spF S ps.length (runB ps.length N.length sm)) := by
  obtain ⟨oc, od, dV, kV, doc, pm, an, cdv, ct, osl, rfl, lk, hcd, _, _⟩ := F.ex
  exact fn_of lk hcd Sc (fun vs H Q E h => h.1) fun A outer s H vs Q E hr ⟨_, W, ds, M, r, l, kk⟩ => ⟨TSf S E sm, hb cdv A outer s H E ⟨_, _, _, _, lk, rfl⟩ hr, W, _, M, r.enter l, KS.body r kk⟩
theorem cal_okC {x qual : Str} {params : Arguments} {body : List Stmt} {scope : Scope} {fad : Addr} {N ps : List Str} {k : Nat} {sm : SmS} {fd : FuncData} (hx : mg x = some (.ref fad)) (F : FunD S.K x qual params body scope [] [] fad fd) (Sc : FnScope N ps scope)
    (hb : ∀ (kV doc pm : Value) (an : Option Addr) (cdv ct : Value) (us : List Value), us.length = ps.length → bindArgs (PySem.W.fnOf x qual params body scope .none kV doc pm an cdv ct) ⟨us, []⟩ = pure (ps.zip us))
    (h : ∀ (cdv : Value) (A : Around) (outer : List Env) (s : Shared) (H : Hp) (E : XK), CodeIs S.K fad cdv → Room k (A.deeper (envOfC qual scope s.heap.objs.size fad cdv)) → PSs (Xb S mg base N qual scope fad cdv A outer s H E) body (TSf S E sm)) :
    CalF S mg base (k + 1) x ps.length (runB ps.length N.length sm) :=
  ⟨⟨fad, fd, ps, hx, F.kp, F.bindsN hb, fn_okC F Sc h⟩, fun ds M r hr => by
    unfold runB at hr
    split at hr
    · assumption
    · cases hr⟩
end
section
variable {S : Sg} {w : XK} {X : Cx} {p lpos pos : Pos} {f : Sm}
theorem tk_lam {A : Around} {outer : List Env} {s : Shared} {H : Hp} {E : XK} {scope : Scope} {g c' : Addr} : TkW (LamX.lamCx X A outer s H E scope g c') E :=
  passes_call (W := fun cls d _ H => E cls d H) (takes_of rfl rfl rfl rfl) fun cls d σ H h => h
/-- the def that tries what it gets -/
structure ToldF (S : Sg) (X : Cx) (x a : Str) (Ng : List Str) (n i nE : Nat) (sx : Exn → SmS) (QA : V → Hp → VK → Prop) : Prop where
  ex : ∃ (g : Addr) (oc : Value) (od : Option Addr) (pg : Arguments) (bg : List Stmt) (sg : Scope) (dV kV doc pm cdv ct : Value) (an : Option Addr) (osl : Array (Option Value)), X.mg x = some (.ref g) ∧ PySem.W.keepIn X.K (.ref g) = true ∧
    X.K.lookup g = some ⟨oc, od, .func (PySem.W.fnOf x x pg bg sg dV kV doc pm an cdv ct), osl⟩ ∧ PySem.W.codeIn X.K cdv x = true ∧ L2.Binds X.K (PySem.W.fnOf x x pg bg sg dV kV doc pm an cdv ct) [a] [] ∧ FnScope Ng [a] sg ∧ Ng[0]? = some a ∧ Vis sg a ∧
    ∀ q, LamX.GivesTo X Ng x sg g cdv bg a q (TTw S nE n i sx QA)
theorem e_told {x a : Str} {Ng : List Str} {n i nE k : Nat} {sx : Exn → SmS} {onV : Bool → D → Option (Bool × D)} {QA : V → Hp → VK → Prop} {c P : Addr} {params : Arguments} {body : Expr} {scope : Scope} (G : ToldF S X x a Ng n i nE sx QA)
    (hA : ∀ {W W' : Wd} {e e' : Env'} {σ : L2.St} {H H' : Hp} {M' : Sto} {own own' : Bool} {d d' : D} {v : V} {Q : VK}, onV own d = some (own', d') → KE S w W e σ H (some (.ok own' d', e', M')) Q → Rel S W' σ H' e' M' → Post W e σ H W' e' σ H' → Res S W' e' σ e σ H H' own d v → QA v H' Q)
    (hx : ∀ y M', (runX n i sx y M').isSome = true → y.c < nE) (TB : LamX.TabB X.base X.mg c P) (hcode : X.env.code = .ref c) (hT : S.T = [(P, X.env.qual ++ "<lambda>")]) (hr : Room k X.A) (hk : 2 ≤ k)
    (hbody : ∀ (A : Around) (outer : List Env) (s : Shared) (H : Hp) (E : XK) (g c' : Addr), Room (k - 2) (A.deeper (LamX.lamEnv X scope s.heap.objs.size g c')) → PE (LamX.lamCx X A outer s H E scope g c') body (TEf S E f))
    (hg : Gl X x := by rfl) (L : LamX.LamS X.env.scope scope := by exact LamX.lamS_by (by rfl)) (hdef : defaultsOf params X.env = ([], []) := by rfl)
    (hbind : ∀ (q : Str) (cl : List (Str × Addr)) (pm cv ctv : Value), bindArgs (PySem.W.kla_fn "<lambda>" q params body scope cl pm cv ctv) ⟨[], []⟩ = pure [] := by intros; rfl)
    (hdb : (x == ("__debug__" : Str)) = false := by decide) (hd : (a == ("__debug__" : Str)) = false := by decide) (hcd : (a == ("__classdict__" : Str)) = false := by decide) :
    PE X (.Call (.Name x p) [.Lambda params body scope lpos] [] pos) (TEf S w (smTold n i sx onV f)) := by
  obtain ⟨g, oc, od, pg, bg, sg, dV, kV, doc, pm, cdv, ct, an, osl, h1, h2, h3, h4, h5, h6, h7, h8, h9⟩ := G.ex
  obtain ⟨k, rfl⟩ : ∃ j, k = j + 2 := ⟨k - 2, by omega⟩
  refine peI (LamX.pe_lamcall (T := S.T) (t := fun E => TEf S E f) (k := k) hg h1 h2 h3 h4 h5 h6 h7 h8 (h9 _) TB hcode (by rw [hT]; exact List.mem_singleton.mpr rfl) (fun q hq hp => ?_) hr L hdef hbind (fun A outer s H E g c' hr' => hbody A outer s H E g c' hr') hdb hd hcd) fun σ H Q z => told_of (fun h1 h2 h3 h4 h5 => hA h1 h2 h3 h4 h5) (fun e M y e' M' _ hs => hx y M' hs) z
  rw [hT] at hq
  rw [List.mem_singleton.mp hq]
/-- told's answers: the constant behind the try; the value itself -/
theorem qaA {st : Str} {W W' : Wd} {e e' : Env'} {σ : L2.St} {H H' : Hp} {M' : Sto} {own own' : Bool} {d d' : D} {v : V} {Q : VK} (h : some (false, D.str st) = some (own', d')) (k : KE S w W e σ H (some (.ok own' d', e', M')) Q) (r : Rel S W' σ H' e' M') (p : Post W e σ H W' e' σ H') (_ : Res S W' e' σ e σ H H' own d v) : Q (.str st) H' := by
  cases h
  exact k W' H' _ r p (by simp only [Res, Fz])
theorem qaB {W W' : Wd} {e e' : Env'} {σ : L2.St} {H H' : Hp} {M' : Sto} {own own' : Bool} {d d' : D} {v : V} {Q : VK} (h : some (own, d) = some (own', d')) (k : KE S w W e σ H (some (.ok own' d', e', M')) Q) (r : Rel S W' σ H' e' M') (p : Post W e σ H W' e' σ H') (q : Res S W' e' σ e σ H H' own d v) : Q v H' := by
  cases h
  exact k W' H' _ r p q
end
end EV

/-! EvU: an own exception whose __init__ says super().__init__(..), then stores its fields. -/
namespace EV
open PySem PySem.W PySem.Spec PySem.Calls PyProof.Rows L2

section
variable {prog : Program} {w : World} {A : Around} {E : Value → Shared → Prop} {h : Heap} {g : Array GenState} {d : Drawn} {t : Nat} {os : OsState}
/-- the exception's object, its dict at dv -/
abbrev xo (C t0 : Addr) (dv : Option Addr) : Obj := { cls := .ref C, dict := dv, data := .fields #[.ref t0, .none, .none, .none, .bool false, .none] }
/-- the bound ValueError.__init__ called -/
theorem call_mwE {nm q : Str} {C N u x t0 : Addr} {bs bm : List Value} {sn : List Str} {sub : List Value} {ab : Bool} {col : Option Bool} {dd : Option Addr} {k0 k1 k2 k3 k5 : Option Value} {dv : Option Addr} {rest : List Value} {Q : Value → Shared → Prop}
    (hC : h.get? C = some (excClassObj nm q C N bs bm true sn sub ab col dd k0 k1 k2 k3 k5 "ValueError.__new__")) (hu : h.get? u = some (kxs_mw "ValueError.__init__" x)) (he : h.get? x = some (xo C t0 dv)) (hz : rest.length ≤ sizeLine)
    (fin : ∀ h', (∀ b o, b ≠ x → h.get? b = some o → h'.get? b = some o) → h'.get? x = some (xo C h.objs.size dv) → Q .none ⟨h', g, d, t, os⟩) :
    wpAny (model prog w) A (call (.ref u) rest) Q E ⟨h, g, d, t, os⟩ := by
  refine wpAny_call (codeAny_of_tree ?_)
  show wpAny _ A.in1 (callAny (.ref u) ⟨rest, []⟩) _ _ _
  simp only [callAny]
  refine wpAny_bind (wpAny_load hu ?_)
  simp only [kxs_mw, show (Value.type "method-wrapper" == Value.type "method" || Value.type "method-wrapper" == Value.type "builtin_function_or_method" || Value.type "method-wrapper" == Value.type "method-wrapper") = true by decide, if_true]
  refine KFB.if_so (by decide) ?_
  refine wpAny_bind (check_bound_init PySem.F.excBase_ValueError.toExcCallFacts hC he rfl ?_)
  refine wpAny_bind (wpAny_pure (wpAny_pure ?_))
  refine ⟨plainId_quiet PySem.F.excBase_ValueError.init.plain _, codeAny_builtin PySem.F.excBase_ValueError.initEntry ?_⟩
  exact exc_init_tree (cls := .ref C) (t0 := t0) (dv := dv) (c2 := .none) (c3 := .none) (b4 := .bool false) he hz fun h' k e' _ => fin h' k e'
end

section
variable {prog : Program} {w : World} {A : Around} {E : Value → Shared → Prop} {s : Shared} {K : Frag} {mg mb m : Str → Option Value} {qual : Str} {scope : Scope} {L fI C cc cda x : Addr} {body : List Stmt}
/-- super().__init__(..) as a statement -/
theorem super_stmt {x0 : Sem Value} {r0 : List (Bool × Sem Value)} {es : List Expr} {us : List Value} {p0 p1 p2 p3 p4 : Pos} {fd : FuncData} {ar : Arg} {vs : Array Value} {file : Str} {tf : Tok} {oc cl ccl : Value} {od cld cdd : Option Addr} {osl csl ccs : Array (Option Value)} {t0 : Addr} {Q : Flow → Shared → Prop} {pl : Sem Bool}
    (X : K.In s.heap) (hG : s.heap.Ns mainGlobals mg) (hsup : mg "super" = none) (hB : s.heap.Ns builtinsNs mb) (hmb : mb "super" = some (.type "super")) (ns : s.heap.Ns L m) (T : OexC K C)
    (lk : K.lookup fI = some ⟨oc, od, .func fd, osl⟩) (hp : (fd.params.posonlyargs ++ fd.params.args).head? = some ar) (hself : m ar.arg = some (.ref x)) (he : s.heap.get? x = some (xo C t0 none)) (xL : x ≠ L)
    (hcd : K.lookup cda = some ⟨ccl, cdd, .fields vs, ccs⟩) (hvs : vs[2]? = some (.str file tf)) (hfile : ((prog.main.file : Str) == file) = true) (hcell : K.lookup cc = some ⟨cl, cld, .cell (some (.ref C)), csl⟩)
    (hmro : mroIn K C (.ref C) = some true) (hVE : subIn K (.ref C) (.type "ValueError") = some true) (hsi : ks_superIn K C C "__init__" = some (some (.builtin "ValueError.__init__"))) (hop : nsIn K cStatics "thirdparty.any" = some none)
    (hks : scope.names.lookup ("super" : Str) = some .globalImplicit) (hkc : scope.names.lookup ("__class__" : Str) = some .free) (hka : scope.names.lookup ar.arg = some .local) (hk : scope.kind = .function) (htop : (prog.main.scope.names.lookup ("super" : Str)).isSome = false)
    (hi : interactive (ksEnv qual scope L fI (.ref cda) cc) = false) (hs : swapsWith (.Call (.Attribute (.Call (.Name "super" p0) [] [] p1) "__init__" p2) es [] p3) none p4.line (ksEnv qual scope L fI (.ref cda) cc) = pure false)
    (hev : eval (.Call (.Attribute (.Call (.Name "super" p0) [] [] p1) "__init__" p2) es [] p3) (ksEnv qual scope L fI (.ref cda) cc) = (do
      let ov ← attributeBase (.Call (.Name "super" p0) [] [] p1) "__init__" (ksEnv qual scope L fI (.ref cda) cc) (eval (.Call (.Name "super" p0) [] [] p1) (ksEnv qual scope L fI (.ref cda) cc))
      standAt p2.atName
      let (f, first) ← holding [ov] (getMethod ov "__init__" pl)
      callWith p3 f first (backTo p3 (starEach es (ksEnv qual scope L fI (.ref cda) cc))) []))
    (hbt : backTo p3 (starEach es (ksEnv qual scope L fI (.ref cda) cc)) = (false, x0) :: r0) (hpl : (backTo p3 (starEach es (ksEnv qual scope L fI (.ref cda) cc))).any (·.1) = false) (hus : us.length ≤ sizeLine)
    (hargs : ∀ (s1 : Shared) (Q1 : List Value → Shared → Prop), s1.heap.Ns L m → Q1 us s1 → wpAny (model prog w) A (spliced (backTo p3 (starEach es (ksEnv qual scope L fI (.ref cda) cc)))) Q1 E s1)
    (h : ∀ h' t' t1, (∀ b o, b ≠ x → s.heap.get? b = some o → h'.get? b = some o) → h'.get? x = some (xo C t1 none) → Q .next { s with heap := h', toks := t' }) :
    _root_.PySem.wpAt (model prog w) A (.func body (ksEnv qual scope L fI (.ref cda) cc)) (exec (.Expr (.Call (.Attribute (.Call (.Name "super" p0) [] [] p1) "__init__" p2) es [] p3) p4) (ksEnv qual scope L fI (.ref cda) cc)) Q E s := by
  obtain ⟨nm, q, N, bs, bm, sn, sub, ab, col, dd, k0, k1, k2, k3, k5, hCl, hbm⟩ := T.cls
  have hcl : ∃ cdD, clsIn K C = some cdD ∧ ∃ oD, s.heap.get? C = some oD ∧ oD.data = .cls cdD := by
    refine ⟨_, by unfold clsIn; rw [hCl], _, X _ _ hCl, rfl⟩
  obtain ⟨cdD, hcls, oD, hD1, hD2⟩ := hcl
  obtain ⟨hh, g, d, t, os⟩ := s
  refine ks_wpAt_Expr_any (ks_wpAt_MethodCall (pl := pl) (ks_wpAt_super_base (env := ksEnv qual scope L fI (.ref cda) cc) hks hkc (by decide) rfl (X _ _ lk) rfl hp rfl (X _ _ hcd) rfl hvs hfile htop ?_) hev) hi hs
  refine ks_loadName_global hk hks (loadGlobal_builtin (env := ksEnv qual scope L fI (.ref cda) cc) hG hsup hB hmb ⟨rfl, ?_⟩)
  refine wpAny_loadName_free hk hkc rfl ⟨_, X _ _ hcell, rfl⟩ ?_
  refine wpAny_loadName_local hk hka ns hself ?_
  refine ks_wpAny_isType_cls hD1 hD2 ⟨rfl, ?_⟩
  refine ks_wpAny_call_super hD1 hD2 he rfl (fun c e => by cases e) (looks_mroIn X hmro) fun h1 e1 kk1 => ?_
  have X1 : K.In h1 := X.keeps kk1
  have I1 : InstAt h1 x (xo C t0 none) C none := ⟨kk1 _ _ he, rfl, rfl, trivial⟩
  have hI : Looks (model prog w) h1 (isInstance (.ref x) (.type "ValueError")) true := I1.type.andThen (looks_subIn X1 hVE)
  have hsi' : alongIn K "__init__" ((cdD.mro.dropWhile (· != .ref C)).drop 1) = some (some (.builtin "ValueError.__init__")) := by
    unfold ks_superIn at hsi
    rw [hcls] at hsi
    exact hsi
  refine kxs_getMethod kxs_ValueError e1 (looks_opaque X1 hop) (l₀ := cdD.mro) (fun A Q E s k q => wpAny_bind ((looks_clsIn X1 hcls) A _ E s k (wpAny_pure q))) rfl X1 hsi' hI (ks_ne X1 I1 hcls) (by decide) ?_
  have ns1 : h1.Ns L m := by
    obtain ⟨o, es, ep, hL, r⟩ := ns
    exact ⟨o, es, ep, kk1 _ _ hL, r⟩
  have kk2 : ∀ b o, h1.get? b = some o → (h1.push (kxs_mw "ValueError.__init__" x)).get? b = some o := fun b o e => Heap.get?_push_of_some _ e
  have hu : (h1.push (kxs_mw "ValueError.__init__" x)).get? h1.objs.size = some (kxs_mw "ValueError.__init__" x) := Heap.get?_push_at rfl rfl
  have ns2 : (h1.push (kxs_mw "ValueError.__init__" x)).Ns L m := by
    obtain ⟨o, es, ep, hL, r⟩ := ns1
    exact ⟨o, es, ep, kk2 _ _ hL, r⟩
  have key : ∀ (t : Nat) (Qv : Value → Shared → Prop), (∀ h', (∀ b o, b ≠ x → (h1.push (kxs_mw "ValueError.__init__" x)).get? b = some o → h'.get? b = some o) → h'.get? x = some (xo C (h1.push (kxs_mw "ValueError.__init__" x)).objs.size none) → Qv .none ⟨h', g, d, t, os⟩) →
      wpAny (model prog w) A (callWith p3 (.ref h1.objs.size) [] (backTo p3 (starEach es (ksEnv qual scope L fI (.ref cda) cc))) []) Qv E ⟨h1.push (kxs_mw "ValueError.__init__" x), g, d, t, os⟩ := by
    intro t Qv fin
    refine kxs_callWith (i := "ValueError.__init__") (x := x) hpl ?_
    have ha := hargs ⟨h1.push (kxs_mw "ValueError.__init__" x), g, d, t, os⟩ (fun vs s1 => KxsAt "ValueError.__init__" h1.objs.size x s1.heap ∧ wpAny (model prog w) A (call (.ref h1.objs.size) ([] ++ vs)) Qv E s1) ns2
      (And.intro hu (call_mwE (nm := nm) (q := q) (N := N) (bs := bs) (bm := bm) (kk2 _ _ (kk1 _ _ (X _ _ hCl))) hu (kk2 _ _ (kk1 _ _ he)) hus fin))
    rw [hbt] at ha ⊢
    exact evalArgs_plain ha
  refine key _ _ fun h3 k3 e3 => ?_
  exact h h3 _ _ (fun b o hb e => k3 b o hb (kk2 _ _ (kk1 _ _ e))) e3
end
end EV

/-! EvV: __init__ of an own exception, run. -/
namespace EV
open PySem PySem.W PySem.Spec PySem.Calls PyProof.Rows L2

section
variable {prog : Program} {w : World} {A : Around} {c : Code} {E : Value → Shared → Prop} {env : Env} {s : Shared} {K : Frag} {m m0 : Str → Option Value} {C x t0 dx : Addr} {sf n f : Str} {p p1 p' pos : Pos} {u : Value} {Q : Flow → Shared → Prop} {nl : List Str}
/-- self.f = n, the first field -/
theorem fld_new (T : OexC K C) (X : K.In s.heap) (ns : s.heap.Ns env.locals m) (hs : m sf = some (.ref x)) (hn : m n = some u) (he : s.heap.get? x = some (xo C t0 none)) (hno : findIn K (.ref C) f = some none)
    (hk : env.scope.kind = .function) (h1 : env.kindOf sf = some .local) (h2 : env.kindOf n = some .local) (d1 : (sf == ("__debug__" : Str)) = false) (d2 : (n == ("__debug__" : Str)) = false) (hsw : swapsWith (.Name n p1) (some (.Attribute (.Name sf p) f p')) pos.line env = pure false)
    (h : ∀ h' t' dx, (∀ b o, b ≠ x → s.heap.get? b = some o → h'.get? b = some o) → s.heap.objs.size ≤ dx → h'.get? x = some (xo C t0 (some dx)) → h'.Ns1 dx (fun y => if y = f then some u else none) → Q .next { s with heap := h', toks := t' }) :
    _root_.PySem.wpAt (model prog w) A c (exec (.Assign [.Attribute (.Name sf p) f p'] (.Name n p1) pos) env) Q E s := by
  obtain ⟨nm, q, N, bs, bm, sn, sub, ab, col, dd, k0, k1, k2, k3, k5, hC, hbm⟩ := T.cls
  have hcl : clsIn K C = some { name := nm, bases := bs, mro := .ref C :: bm, ns := N, qualname := q, hasDict := true, slotNames := sn, subclasses := sub, abstract := ab, collection := col, hasDel := false } := by unfold clsIn; rw [hC] <;> rfl
  refine ks_wpAt_Assign_Attr (wpAt_of_wpAny (wpAny_Name (wpAny_loadName_local hk h2 ns hn ?_) d2)) hsw
  refine wpAny_Name (wpAny_loadName_local hk h1 ns hs ?_) d1
  obtain ⟨hp, g, d, t, os⟩ := s
  refine set_plain X (ox := xo C t0 none) (od := none) ⟨he, rfl, rfl, trivial⟩ T.sa ?_
  exact PySem.HandSPX.exc_osa X he hcl (show PySem.HandSPX.refsVE (.ref C :: bm) = true from hbm) rfl hno fun h' tk' dx k dn dne hx hn' => h h' tk' dx k dn hx hn'
/-- self.f = n, a further field -/
theorem fld_old (T : OexC K C) (X : K.In s.heap) (ns : s.heap.Ns env.locals m) (hs : m sf = some (.ref x)) (hn : m n = some u) (he : s.heap.get? x = some (xo C t0 (some dx))) (hd : s.heap.Ns1 dx m0) (hw : Within m0 nl) (hz : nl.length ≤ 1000) (hno : findIn K (.ref C) f = some none)
    (hk : env.scope.kind = .function) (h1 : env.kindOf sf = some .local) (h2 : env.kindOf n = some .local) (d1 : (sf == ("__debug__" : Str)) = false) (d2 : (n == ("__debug__" : Str)) = false) (hsw : swapsWith (.Name n p1) (some (.Attribute (.Name sf p) f p')) pos.line env = pure false)
    (h : ∀ h' t', (∀ b o, b ≠ dx → s.heap.get? b = some o → h'.get? b = some o) → h'.Ns1 dx (fun y => if y = f then some u else m0 y) → Q .next { s with heap := h', toks := t' }) :
    _root_.PySem.wpAt (model prog w) A c (exec (.Assign [.Attribute (.Name sf p) f p'] (.Name n p1) pos) env) Q E s := by
  obtain ⟨nm, q, N, bs, bm, sn, sub, ab, col, dd, k0, k1, k2, k3, k5, hC, hbm⟩ := T.cls
  have hcl : clsIn K C = some { name := nm, bases := bs, mro := .ref C :: bm, ns := N, qualname := q, hasDict := true, slotNames := sn, subclasses := sub, abstract := ab, collection := col, hasDel := false } := by unfold clsIn; rw [hC] <;> rfl
  refine ks_wpAt_Assign_Attr (wpAt_of_wpAny (wpAny_Name (wpAny_loadName_local hk h2 ns hn ?_) d2)) hsw
  refine wpAny_Name (wpAny_loadName_local hk h1 ns hs ?_) d1
  obtain ⟨hp, g, d, t, os⟩ := s
  obtain ⟨oD, _, _, hoD, _, _⟩ := hd.count hw
  refine set_plain X (ox := xo C t0 (some dx)) (od := some oD) ⟨he, rfl, rfl, hoD⟩ T.sa ?_
  exact PySem.OEX.osa_old X he hd hw hz hcl (show PySem.HandSPX.refsVE (.ref C :: bm) = true from hbm) rfl hno fun h' tk' k hn' => h h' tk' k hn'
end

/-- the body of an __init__ of one field, of two -/
abbrev ib1 (p0 p1 p2 p3 p4 p5 p6 p7 p8 p9 : Pos) (sf n f : Str) : List Stmt :=
  [.Expr (.Call (.Attribute (.Call (.Name "super" p0) [] [] p1) "__init__" p2) [.Name n p9] [] p3) p4, .Assign [.Attribute (.Name sf p5) f p6] (.Name n p7) p8]
abbrev ib2 (p0 p1 p2 p3 p4 p5 p6 p7 p8 p9 q0 q1 q2 q3 q4 : Pos) (sf n n2 f f2 : Str) : List Stmt :=
  [.Expr (.Call (.Attribute (.Call (.Name "super" p0) [] [] p1) "__init__" p2) [.Name n p9, .Name n2 q0] [] p3) p4, .Assign [.Attribute (.Name sf p5) f p6] (.Name n p7) p8, .Assign [.Attribute (.Name sf q1) f2 q2] (.Name n2 q3) q4]

/-- how super().__init__(es) is read there -/
def HEV (fI cda cc : Addr) (qual : Str) (scope : Scope) (L : Addr) (p0 p1 p2 p3 : Pos) (es : List Expr) (pl : Sem Bool) : Prop :=
  eval (.Call (.Attribute (.Call (.Name "super" p0) [] [] p1) "__init__" p2) es [] p3) (ksEnv qual scope L fI (.ref cda) cc) = (do
      let ov ← attributeBase (.Call (.Name "super" p0) [] [] p1) "__init__" (ksEnv qual scope L fI (.ref cda) cc) (eval (.Call (.Name "super" p0) [] [] p1) (ksEnv qual scope L fI (.ref cda) cc))
      standAt p2.atName
      let (f, first) ← holding [ov] (getMethod ov "__init__" pl)
      callWith p3 f first (backTo p3 (starEach es (ksEnv qual scope L fI (.ref cda) cc))) [])
section
variable {prog : Program} {w : World} {A : Around} {E : Value → Shared → Prop} {s : Shared} {S : Sg} {mg mb : Str → Option Value} {qual x : Str} {params : Arguments} {scope : Scope} {cN : Nat} {a : Addr} {t0 : Addr} {u u2 : Value}
  {p0 p1 p2 p3 p4 p5 p6 p7 p8 p9 q0 q1 q2 q3 q4 : Pos} {sf n n2 f f2 : Str} {R : Result → Shared → Prop} {ar : Arg}
theorem init_run1 {C fI cc cda : Addr} {oc cl ccl : Value} {od cld cdd an : Option Addr} {osl csl ccs : Array (Option Value)} {dV kV doc pm ct : Value} {vs : Array Value} {file : Str} {tf : Tok} (T : OexC S.K C)
    (lk : S.K.lookup fI = some ⟨oc, od, .func (ksFn "__init__" qual params (ib1 p0 p1 p2 p3 p4 p5 p6 p7 p8 p9 sf n f) scope dV kV doc pm an (.ref cda) ct cc), osl⟩) (hcda : codeIn S.K (.ref cda) qual = true)
    (hcd : S.K.lookup cda = some ⟨ccl, cdd, .fields vs, ccs⟩) (hvs : vs[2]? = some (.str file tf)) (hfile : ((prog.main.file : Str) == file) = true) (hcell : S.K.lookup cc = some ⟨cl, cld, .cell (some (.ref C)), csl⟩)
    (hmro : mroIn S.K C (.ref C) = some true) (hVE : subIn S.K (.ref C) (.type "ValueError") = some true) (hsi : ks_superIn S.K C C "__init__" = some (some (.builtin "ValueError.__init__"))) (hop : nsIn S.K cStatics "thirdparty.any" = some none)
    (hno : findIn S.K (.ref C) f = some none) {pl : Addr → Sem Bool} (hev : ∀ L, HEV fI cda cc qual scope L p0 p1 p2 p3 [.Name n p9] (pl L)) (hint : ∀ L, interactive (ksEnv qual scope L fI (.ref cda) cc) = false) (hXa : ∀ b o, S.K.lookup b = some o → b ≠ a)
    (hk : scope.kind = .function) (hco : scope.isCoroutine = false) (hge : scope.isGenerator = false) (hkc0 : ∀ x ∈ scope.names, x.2 ≠ .cell) (hks : scope.names.lookup ("super" : Str) = some .globalImplicit) (hkc : scope.names.lookup ("__class__" : Str) = some .free)
    (h1 : scope.names.lookup sf = some .local) (h2 : scope.names.lookup n = some .local) (hne : (sf == n) = false) (d1 : (sf == ("__debug__" : Str)) = false) (d2 : (n == ("__debug__" : Str)) = false)
    (hp : (params.posonlyargs ++ params.args).head? = some ar) (har : ar.arg = sf) (htop : (prog.main.scope.names.lookup ("super" : Str)).isSome = false)
    (hbind : ∀ v u, BindsTo s (ksFn "__init__" qual params (ib1 p0 p1 p2 p3 p4 p5 p6 p7 p8 p9 sf n f) scope dV kV doc pm an (.ref cda) ct cc) ⟨[v, u], []⟩ [(sf, v), (n, u)])
    (X : S.K.In s.heap) (hG : s.heap.Ns mainGlobals mg) (hsup : mg "super" = none) (hB : s.heap.Ns builtinsNs mb) (hmb : mb "super" = some (.type "super")) (lim : s.heap.NoLimit) (room : A.depth < recursionLimit) (he : s.heap.get? a = some (xo C t0 none))
    (fin : ∀ h' t' dx t1, (∀ b o, b ≠ a → s.heap.get? b = some o → h'.get? b = some o) → s.heap.objs.size ≤ dx → h'.get? a = some (xo C t1 (some dx)) → h'.Ns1 dx (fun y => if y = f then some u else none) → R (.ok (.ret .none)) { s with heap := h', toks := t' }) :
    codeAny (model prog w) A (.call (.ref fI) ⟨[.ref a, u], []⟩) R s := by
  subst har
  refine ks_codeAny_call_defAt room (X _ _ lk) rfl lim (codeRec_of X hcda) rfl (hbind (.ref a) u) hkc0 (fun y hy => ?_) (fun h0 ns0 k0 => ?_) hco hge hk
  · simp only [List.mem_cons, List.not_mem_nil, or_false] at hy
    rcases hy with rfl | rfl
    · exact h1
    · exact h2
  have ms : (fun y => ([(ar.arg, Value.ref a), (n, u)] : List (Str × Value)).reverse.lookup y) ar.arg = some (.ref a) := by
    show ([(n, u), (ar.arg, Value.ref a)] : List (Str × Value)).lookup ar.arg = _
    simp [List.lookup, hne]
  have mn : (fun y => ([(ar.arg, Value.ref a), (n, u)] : List (Str × Value)).reverse.lookup y) n = some u := by
    show ([(n, u), (ar.arg, Value.ref a)] : List (Str × Value)).lookup n = _
    simp [List.lookup]
  obtain ⟨o1, es1, ep1, hL, rL⟩ := ns0
  have ns0 : h0.Ns s.heap.objs.size (fun y => ([(ar.arg, Value.ref a), (n, u)] : List (Str × Value)).reverse.lookup y) := ⟨o1, es1, ep1, hL, rL⟩
  have aL : a ≠ s.heap.objs.size := Nat.ne_of_lt (Heap.lt_size he)
  have X0 : S.K.In h0 := X.keeps k0
  refine ks_wpAt_execs_cons ?_
  refine super_stmt (us := [u]) X0 (by obtain ⟨o, es, ep, e, r⟩ := hG; exact ⟨o, es, ep, k0 _ _ e, r⟩) hsup (by obtain ⟨o, es, ep, e, r⟩ := hB; exact ⟨o, es, ep, k0 _ _ e, r⟩) hmb ns0 T lk hp ms (k0 _ _ he) aL
    hcd hvs hfile hcell hmro hVE hsi hop hks hkc h1 hk htop (hint _) rfl (hev _) rfl rfl (by show 1 ≤ sizeLine; rw [sizeLine_eq]; omega) (fun s1 Q1 nsx q => ?_) fun h2' t2 t1 k2 e2 => ?_
  · exact spliced_more (wpAny_Name (wpAny_loadName_local hk h2 nsx mn (spliced_none q)) d2)
  have ns2 : h2'.Ns s.heap.objs.size (fun y => ([(ar.arg, Value.ref a), (n, u)] : List (Str × Value)).reverse.lookup y) := ⟨o1, es1, ep1, k2 _ _ aL.symm hL, rL⟩
  have kx : ∀ b o, b ≠ a → s.heap.get? b = some o → h2'.get? b = some o := fun b o hb e => k2 b o hb (k0 _ _ e)
  have lt2 : s.heap.objs.size < h2'.objs.size := Heap.lt_size (k2 _ _ aL.symm hL)
  have X2 : S.K.In h2' := fun b o e => kx b o (hXa b o e) (X b o e)
  refine ks_wpAt_execs_cons (fld_new T X2 ns2 ms mn e2 hno hk h1 h2 d1 d2 rfl fun h3 t3 dx k3 l3 e3 n3 => ?_)
  refine wpAt_of_wpAny (wpAny_execs_nil ?_)
  exact fin _ _ dx _ (fun b o hb e => k3 b o hb (kx b o hb e)) (Nat.le_of_lt (Nat.lt_of_lt_of_le lt2 l3)) e3 n3
theorem init_run2 {C fI cc cda : Addr} {oc cl ccl : Value} {od cld cdd an : Option Addr} {osl csl ccs : Array (Option Value)} {dV kV doc pm ct : Value} {vs : Array Value} {file : Str} {tf : Tok} (T : OexC S.K C)
    (lk : S.K.lookup fI = some ⟨oc, od, .func (ksFn "__init__" qual params (ib2 p0 p1 p2 p3 p4 p5 p6 p7 p8 p9 q0 q1 q2 q3 q4 sf n n2 f f2) scope dV kV doc pm an (.ref cda) ct cc), osl⟩) (hcda : codeIn S.K (.ref cda) qual = true)
    (hcd : S.K.lookup cda = some ⟨ccl, cdd, .fields vs, ccs⟩) (hvs : vs[2]? = some (.str file tf)) (hfile : ((prog.main.file : Str) == file) = true) (hcell : S.K.lookup cc = some ⟨cl, cld, .cell (some (.ref C)), csl⟩)
    (hmro : mroIn S.K C (.ref C) = some true) (hVE : subIn S.K (.ref C) (.type "ValueError") = some true) (hsi : ks_superIn S.K C C "__init__" = some (some (.builtin "ValueError.__init__"))) (hop : nsIn S.K cStatics "thirdparty.any" = some none)
    (hno : findIn S.K (.ref C) f = some none) (hno2 : findIn S.K (.ref C) f2 = some none) {pl : Addr → Sem Bool} (hev : ∀ L, HEV fI cda cc qual scope L p0 p1 p2 p3 [.Name n p9, .Name n2 q0] (pl L)) (hint : ∀ L, interactive (ksEnv qual scope L fI (.ref cda) cc) = false) (hXa : ∀ b o, S.K.lookup b = some o → b ≠ a)
    (hk : scope.kind = .function) (hco : scope.isCoroutine = false) (hge : scope.isGenerator = false) (hkc0 : ∀ x ∈ scope.names, x.2 ≠ .cell) (hks : scope.names.lookup ("super" : Str) = some .globalImplicit) (hkc : scope.names.lookup ("__class__" : Str) = some .free)
    (h1 : scope.names.lookup sf = some .local) (h2 : scope.names.lookup n = some .local) (h3' : scope.names.lookup n2 = some .local) (hne : (sf == n) = false) (hne2 : (sf == n2) = false) (hne3 : (n == n2) = false) (d3 : (n2 == ("__debug__" : Str)) = false) (d1 : (sf == ("__debug__" : Str)) = false) (d2 : (n == ("__debug__" : Str)) = false)
    (hp : (params.posonlyargs ++ params.args).head? = some ar) (har : ar.arg = sf) (htop : (prog.main.scope.names.lookup ("super" : Str)).isSome = false)
    (hbind : ∀ v u u2, BindsTo s (ksFn "__init__" qual params (ib2 p0 p1 p2 p3 p4 p5 p6 p7 p8 p9 q0 q1 q2 q3 q4 sf n n2 f f2) scope dV kV doc pm an (.ref cda) ct cc) ⟨[v, u, u2], []⟩ [(sf, v), (n, u), (n2, u2)])
    (X : S.K.In s.heap) (hG : s.heap.Ns mainGlobals mg) (hsup : mg "super" = none) (hB : s.heap.Ns builtinsNs mb) (hmb : mb "super" = some (.type "super")) (lim : s.heap.NoLimit) (room : A.depth < recursionLimit) (he : s.heap.get? a = some (xo C t0 none))
    (fin : ∀ h' t' dx t1, (∀ b o, b ≠ a → s.heap.get? b = some o → h'.get? b = some o) → s.heap.objs.size ≤ dx → h'.get? a = some (xo C t1 (some dx)) → h'.Ns1 dx (fun y => if y = f2 then some u2 else if y = f then some u else none) → R (.ok (.ret .none)) { s with heap := h', toks := t' }) :
    codeAny (model prog w) A (.call (.ref fI) ⟨[.ref a, u, u2], []⟩) R s := by
  subst har
  refine ks_codeAny_call_defAt room (X _ _ lk) rfl lim (codeRec_of X hcda) rfl (hbind (.ref a) u u2) hkc0 (fun y hy => ?_) (fun h0 ns0 k0 => ?_) hco hge hk
  · simp only [List.mem_cons, List.not_mem_nil, or_false] at hy
    rcases hy with rfl | rfl | rfl
    · exact h1
    · exact h2
    · exact h3'
  have ms : (fun y => ([(ar.arg, Value.ref a), (n, u), (n2, u2)] : List (Str × Value)).reverse.lookup y) ar.arg = some (.ref a) := by
    show ([(n2, u2), (n, u), (ar.arg, Value.ref a)] : List (Str × Value)).lookup ar.arg = _
    simp [List.lookup, hne, hne2]
  have mn : (fun y => ([(ar.arg, Value.ref a), (n, u), (n2, u2)] : List (Str × Value)).reverse.lookup y) n = some u := by
    show ([(n2, u2), (n, u), (ar.arg, Value.ref a)] : List (Str × Value)).lookup n = _
    simp [List.lookup, hne3]
  have mn2 : (fun y => ([(ar.arg, Value.ref a), (n, u), (n2, u2)] : List (Str × Value)).reverse.lookup y) n2 = some u2 := by
    show ([(n2, u2), (n, u), (ar.arg, Value.ref a)] : List (Str × Value)).lookup n2 = _
    simp [List.lookup]
  obtain ⟨o1, es1, ep1, hL, rL⟩ := ns0
  have ns0 : h0.Ns s.heap.objs.size (fun y => ([(ar.arg, Value.ref a), (n, u), (n2, u2)] : List (Str × Value)).reverse.lookup y) := ⟨o1, es1, ep1, hL, rL⟩
  have aL : a ≠ s.heap.objs.size := Nat.ne_of_lt (Heap.lt_size he)
  have X0 : S.K.In h0 := X.keeps k0
  refine ks_wpAt_execs_cons ?_
  refine super_stmt (us := [u, u2]) X0 (by obtain ⟨o, es, ep, e, r⟩ := hG; exact ⟨o, es, ep, k0 _ _ e, r⟩) hsup (by obtain ⟨o, es, ep, e, r⟩ := hB; exact ⟨o, es, ep, k0 _ _ e, r⟩) hmb ns0 T lk hp ms (k0 _ _ he) aL
    hcd hvs hfile hcell hmro hVE hsi hop hks hkc h1 hk htop (hint _) rfl (hev _) rfl rfl (by show 2 ≤ sizeLine; rw [sizeLine_eq]; omega) (fun s1 Q1 nsx q => ?_) fun h2' t2 t1 k2 e2 => ?_
  · exact spliced_more (wpAny_Name (wpAny_loadName_local hk h2 nsx mn (spliced_more (wpAny_Name (wpAny_loadName_local hk h3' nsx mn2 (spliced_none q)) d3))) d2)
  have ns2 : h2'.Ns s.heap.objs.size (fun y => ([(ar.arg, Value.ref a), (n, u), (n2, u2)] : List (Str × Value)).reverse.lookup y) := ⟨o1, es1, ep1, k2 _ _ aL.symm hL, rL⟩
  have kx : ∀ b o, b ≠ a → s.heap.get? b = some o → h2'.get? b = some o := fun b o hb e => k2 b o hb (k0 _ _ e)
  have lt2 : s.heap.objs.size < h2'.objs.size := Heap.lt_size (k2 _ _ aL.symm hL)
  have X2 : S.K.In h2' := fun b o e => kx b o (hXa b o e) (X b o e)
  refine ks_wpAt_execs_cons (fld_new T X2 ns2 ms mn e2 hno hk h1 h2 d1 d2 rfl fun h3 t3 dx k3 l3 e3 n3 => ?_)
  have hda : dx ≠ a := fun z => absurd (Heap.lt_size e2) (Nat.not_lt.mpr (by rw [← z]; exact l3))
  have hLa : s.heap.objs.size ≠ dx := Nat.ne_of_lt (Nat.lt_of_lt_of_le lt2 l3)
  have ns3 : h3.Ns s.heap.objs.size (fun y => ([(ar.arg, Value.ref a), (n, u), (n2, u2)] : List (Str × Value)).reverse.lookup y) := by
    obtain ⟨o, es, ep, e, r⟩ := ns2
    exact ⟨o, es, ep, k3 _ _ aL.symm e, r⟩
  have X3 : S.K.In h3 := fun b o e => k3 b o (hXa b o e) (X2 b o e)
  refine ks_wpAt_execs_cons (fld_old T X3 ns3 ms mn2 e3 n3 (nl := [f]) (fun y hy => by
    by_cases z : y = f
    · simp [z]
    · rw [if_neg z] at hy; exact absurd rfl hy) (by simp) hno2 hk h1 h3' d1 d3 rfl fun h4 t4 k4 n4 => ?_)
  refine wpAt_of_wpAny (wpAny_execs_nil ?_)
  have ltb : ∀ {b o}, s.heap.get? b = some o → b ≠ dx := fun {b o} e => Nat.ne_of_lt (Nat.lt_of_lt_of_le (Nat.lt_trans (Heap.lt_size e) lt2) l3)
  exact fin _ _ dx _ (fun b o hb e => k4 b o (ltb e) (k3 b o hb (kx b o hb e))) (Nat.le_of_lt (Nat.lt_of_lt_of_le lt2 l3)) (k4 _ _ hda.symm e3) n4
end
end EV

/-! EvW: raise C(..) of an own exception with an own __init__. -/
namespace EV
open PySem PySem.Spec PySem.Calls PyProof.Rows L2

def mFs : List (Str × Value) → Str → Option Value
  | [] => fun _ => none
  | (f, u) :: r => fun y => if y = f then some u else mFs r y
/-- what C's __init__ of the fields fs does -/
def IniOk (S : Sg) (mg : Str → Option Value) (C fI : Addr) (fs : List Str) : Prop :=
  ∀ {w : World} {A : Around} {s : Shared} {a t0 : Addr} {us : List Value} {mb : Str → Option Value} {R : Result → Shared → Prop}, us.length = fs.length → S.K.In s.heap → (∀ b o, S.K.lookup b = some o → b ≠ a) → s.heap.Ns mainGlobals mg → s.heap.Ns builtinsNs mb →
    mb "super" = some (.type "super") → s.heap.NoLimit → A.depth < recursionLimit → s.heap.get? a = some (xo C t0 none) →
    (∀ h' t' dx t1, (∀ b o, b ≠ a → s.heap.get? b = some o → h'.get? b = some o) → s.heap.objs.size ≤ dx → h'.get? a = some (xo C t1 (some dx)) → h'.Ns1 dx (mFs (fs.zip us).reverse) → R (.ok (.ret .none)) { s with heap := h', toks := t' }) →
    codeAny (model S.P w) A (.call (.ref fI) ⟨.ref a :: us, []⟩) R s
structure XiF (S : Sg) (mg : Str → Option Value) (x : Str) (c : Nat) (fs : List Str) : Prop where
  ex : ∃ C fI, S.fa c = some C ∧ mg x = some (.ref C) ∧ OexC S.K C ∧ PySem.W.findIn S.K (.ref C) "__init__" = some (some (.ref fI)) ∧ PySem.W.typeIn S.K (.ref fI) = some (.type "function") ∧ IniOk S mg C fI fs
  few : fs.length ≤ 2
  some_ : fs ≠ []

theorem relO_mFs : ∀ {fs : List Str} {vs : List V} {us : List Value}, fs.length ≤ 2 → Vals vs us → us.length = fs.length → ∀ g, RelO ((fs.zip vs).reverse.lookup g) (mFs (fs.zip us).reverse g)
  | [], _, _, _, _, _, g => True.intro
  | [f], _, _, _, .cons r .nil, _, g => relO_put (fs := []) (mA := fun _ => none) r (fun g => True.intro) g
  | [f, f2], _, _, _, .cons r (.cons r2 .nil), _, g => relO_put (fs := [(f, _)]) r2 (relO_put (fs := []) (mA := fun _ => none) r (fun g => True.intro)) g
  | [f, f2], _, _, _, .cons r .nil, h, g => by simp at h
  | [f, f2], _, _, _, .cons r (.cons r2 (.cons _ _)), h, g => by simp at h
  | [f], _, _, _, .cons r (.cons _ _), h, g => by simp at h
  | [f], _, _, _, .nil, h, g => by simp at h
  | [f, f2], _, _, _, .nil, h, g => by simp at h
  | _ :: _ :: _ :: _, _, _, h, _, _, _ => by simp at h

section
variable {X : Cx} {S : Sg} {e : Expr} {es : List Expr} {ta : TA} {p pos : Pos} {x : Str} {fs : List Str} {k : Nat}
theorem pmk_ini {C fI : Addr} (T : OexC X.K C) (iC : PySem.W.findIn X.K (.ref C) "__init__" = some (some (.ref fI))) (tI : PySem.W.typeIn X.K (.ref fI) = some (.type "function")) (J : IniOk S X.mg C fI fs) (hP : X.prog = S.P) (hK : X.K = S.K) (few : fs.length ≤ 2)
    (hr : Room k X.A) (hg : Gl X x) (hm : X.mg x = some (.ref C)) (ha : PA X (e :: es) ta)
    (hdb : (x == ("__debug__" : Str)) = false) (he : starEach (e :: es) X.env = (false, eval e X.env) :: starEach es X.env) (hpl : (backTo pos (starEach es X.env)).any (·.1) = false) :
    PMk X (.Call (.Name x p) (e :: es) [] pos) (fun σ H Q => ta σ H fun vs H1 => vs.length = fs.length ∧ ∀ d, H1 d = none → Q (.ref C) (some d) (upd H1 d (.xd (fs.zip vs).reverse))) := by
  intro pins s σ H Q I h
  obtain ⟨nm, q, N, bs, bm, sn, sub, ab, col, dd, k0, k1, k2, k3, k5, hC, hbm⟩ := T.cls
  refine wpAny_Call_Name_kw (ld_glob I hg hm ?_ hdb)
  refine PySem.W.callWith_K (h₀ := X.base) I.ok.mod.kin T.kC (thn (ha.run pos pins s σ H _ I h) fun us s1 ⟨vs, H1, I1, r1, hz, q1⟩ => ⟨I1.kIn, ?_⟩) he hpl
  show wpAny _ _ (call (.ref C) us) _ _ _
  obtain ⟨hp, g, dr, tk, os⟩ := s1
  have hl : us.length = fs.length := (Paired.length r1).symm.trans hz
  have hus : us.length ≤ sizeLine := by
    rw [hl, sizeLine_eq]
    omega
  have kk : ∀ b o, hp.get? b = some o → ((hp.push (PySem.W.kdv_tup us)).push (PySem.HandSPX.excO C hp.objs.size)).get? b = some o := fun b o e => Heap.get?_push_of_some _ (Heap.get?_push_of_some _ e)
  have hget : ((hp.push (PySem.W.kdv_tup us)).push (PySem.HandSPX.excO C hp.objs.size)).get? (hp.objs.size + 1) = some (PySem.HandSPX.excO C hp.objs.size) := by heap_get
  have lt1 : ∀ {b o}, hp.get? b = some o → b ≠ hp.objs.size + 1 := fun {b o} e => Nat.ne_of_lt (Nat.lt_succ_of_lt (Heap.lt_size e))
  obtain ⟨mb, hmb1, hmb2⟩ := I1.mod.blt
  have bk : ∀ b o, X.base.get? b = some o → ((hp.push (PySem.W.kdv_tup us)).push (PySem.HandSPX.excO C hp.objs.size)).get? b = some o := fun b o e => kk b o (I1.bk b o e)
  refine wpAny_call (PySem.HandSPX.call_own F.excBase_ValueError (fun Y => PySem.HandSPX.refsVE_contains Y bm hbm) (I1.kIn _ _ hC) (PySem.W.looks_findIn I1.kIn iC) (fun self => PySem.W.bind_fn I1.kIn self tI) hus ?_)
  rw [hP]
  refine J (s := ⟨(hp.push (PySem.W.kdv_tup us)).push (PySem.HandSPX.excO C hp.objs.size), g, dr, tk, os⟩) (t0 := hp.objs.size) hl (hK ▸ I1.kIn.keeps kk) (fun b o e => lt1 (I1.kIn b o (by rw [hK]; exact e))) (I1.mod.glob.keeps bk) (hmb1.keeps bk) ((hmb2 "super" (by decide)).trans (by kernel_rfl)) (I1.nolimit.keeps kk) (by have := hr.dp; rw [make_depth]; omega) hget fun h' t' dx t1 k l hx hn => ?_
  refine ⟨rfl, ?_⟩
  have hk : ∀ b o, hp.get? b = some o → h'.get? b = some o := fun b o e => k b o (lt1 e) (kk b o e)
  have hsz : hp.objs.size + 2 ≤ dx := by
    have z : ((hp.push (PySem.W.kdv_tup us)).push (PySem.HandSPX.excO C hp.objs.size)).objs.size ≤ dx := l
    simpa [Heap.push] using z
  obtain ⟨G, g1, g2⟩ := restrict h' fun b => decide (b ≠ hp.objs.size + 1)
  have gk : ∀ b, b ≠ hp.objs.size + 1 → G.get? b = h'.get? b := fun b hb => g1 b (decide_eq_true hb)
  have ge : G.get? (hp.objs.size + 1) = none := g2 _ (by simp)
  have hdx : H1 dx = none := I1.hok.fresh (by show hp.objs.size ≤ dx; omega)
  have ha1 : H1 (hp.objs.size + 1) = none := I1.hok.fresh (by show hp.objs.size ≤ hp.objs.size + 1; omega)
  have hne : dx ≠ hp.objs.size + 1 := by omega
  have I2 := I1.laid (a := dx) (o := .xd (fs.zip vs).reverse) (h' := G) (t' := t') (fun b o e => (gk b (lt1 e)).trans (hk b o e)) (by show hp.objs.size ≤ dx; omega)
    ⟨mFs (fs.zip us).reverse, hn.at fun o y => (gk dx hne).trans y, relO_mFs few r1 hl⟩
  exact ⟨_, _, _, _, _, .ref C, some dx, rfl, I2, fun b o z => by
      by_cases hb : b = hp.objs.size + 1
      · rw [hb] at z; exact absurd (ge.symm.trans z) (by simp)
      · exact (gk b hb).symm.trans z, ge, hx, ⟨rfl, rfl⟩, rfl, rfl, by rw [upd_ne hne.symm]; exact ha1, rfl, I1.bare, raises_own T.exC T.tyC, q1 dx hdx⟩
/-- scalars -/
def isSc : D → Bool
  | .non => true
  | .bl _ => true
  | .int _ => true
  | .str _ => true
  | _ => false
theorem isSc_fz {W : Wd} {H : Hp} {d : D} {v : V} (h : isSc d = true) (f : Fz S W H d v) : v = scV d := by
  cases d with
  | non => simp only [Fz] at f; exact f
  | bl b => simp only [Fz] at f; exact f
  | int i => simp only [Fz] at f; exact f
  | str y => simp only [Fz] at f; exact f
  | _ => simp [isSc] at h
theorem isSc_fzl {W : Wd} {H : Hp} : ∀ {ds : List D} {vs : List V}, ds.all isSc = true → FzL S W H ds vs → vs = ds.map scV
  | [], vs, _, f => by simp only [FzL] at f; exact f
  | d :: ds, vs, h, f => by
    simp only [FzL] at f
    obtain ⟨v, r, e, f1, f2⟩ := f
    simp only [List.all_cons, Bool.and_eq_true] at h
    rw [e, isSc_fz h.1 f1, isSc_fzl h.2 f2]
    rfl
theorem fsV_zip : ∀ {fs : List Str} {ds : List D}, fsV (fs.zip ds) = fs.zip (ds.map scV)
  | [], _ => rfl
  | _ :: _, [] => rfl
  | f :: fs, d :: ds => by
    show (f, scV d) :: fsV (fs.zip ds) = (f, scV d) :: fs.zip (ds.map scV)
    rw [fsV_zip]
theorem fsV_rev {xs : List (Str × D)} : fsV xs.reverse = (fsV xs).reverse := List.map_reverse
def ssRaiseA (c : Nat) (fs : List Str) (t : SmA) : SmS := fun e M => match t e M with
  | some (.ok ds, e1, M1) => if (ds.length == fs.length && ds.all isSc) = true then some (.exc ⟨c, (fs.zip ds).reverse⟩, e1, M1) else none
  | some (.exc y, e1, M1) => some (.exc y, e1, M1)
  | none => none
variable {w : XK} {t : SmA} {c : Nat} {pos' : Pos}
theorem s_raiseA (F : XiF S X.mg x c fs) (tk : TkR X w) (hr : Room k X.A) (ha : PA X (e :: es) (TAf S w t)) (hP : X.prog = S.P := by rfl) (hK : X.K = S.K := by rfl) (hc : X.calm = true := by rfl) (hg : Gl X x := by rfl) (hdb : (x == ("__debug__" : Str)) = false := by decide)
    (he : starEach (e :: es) X.env = (false, eval e X.env) :: starEach es X.env := by rfl) (hpl : (backTo pos (starEach es X.env)).any (·.1) = false := by rfl) :
    PS X (.Raise (some (.Call (.Name x p) (e :: es) [] pos)) none pos') (TSf S w (ssRaiseA c fs t)) := by
  obtain ⟨C, fI, h1, h2, h3, h4, h5, h6⟩ := F.ex
  refine psI (ps_raise hc tk (pmk_ini (C := C) (fI := fI) (hK ▸ h3) (by rw [hK]; exact h4) (by rw [hK]; exact h5) h6 hP hK F.few hr hg h2 ha hdb he hpl)) fun D σ H ⟨W, e0, M, r, k0⟩ => ⟨W, e0, M, r, ?_⟩
  unfold ssRaiseA at k0
  match ht : t e0 M, k0 with
  | some (.ok ds, e1, M1), k0 =>
    intro W1 H1 vs r1 p1 f1
    by_cases hs : (ds.length == fs.length && ds.all isSc) = true
    · replace k0 : KS S w W e0 σ H (some (.exc ⟨c, (fs.zip ds).reverse⟩, e1, M1)) D := by
        simp only [hs, if_true] at k0
        exact k0
      simp only [Bool.and_eq_true, beq_iff_eq] at hs
      have ev := isSc_fzl hs.2 f1
      refine ⟨by rw [ev, List.length_map]; exact hs.1, fun d hd => ?_⟩
      have r2 := r1.laid (o := .xd (fs.zip vs).reverse) hd (fun ps z => by cases z)
      refine k0 (W1.add d) _ σ (.ref C) (some d) r2 (p1.trans (Post.laid hd)) ⟨C, h1, rfl, .inr ⟨d, rfl, .inr rfl, ?_, ?_⟩⟩
      · rw [upd_same, fsV_rev, fsV_zip, ev]
      · intro z
        have z2 : fs.zip ds = [] := List.reverse_eq_nil_iff.mp z
        cases fs with
        | nil => exact F.some_ rfl
        | cons f fs =>
          cases ds with
          | nil => exact absurd hs.1 (by simp)
          | cons d ds => cases z2
    · simp only [hs] at k0
      exact k0.elim
  | some (.exc y, e1, M1), k0 =>
    intro W1 H1 cls dx r1 p1 q
    exact k0 W1 H1 σ cls dx r1 p1 q
  | none, k0 => exact k0.elim
end
end EV

/-! EvX: calls of a def that a variable holds. -/
namespace EV
open PySem PySem.Spec PySem.Calls PyProof.Rows L2
def smCallV (tab : Nat → Option Fs) (i : Nat) (t : SmA) : Sm := fun e M => match e[i]? with
  | some (some (false, .fn n)) => (match tab n with
    | some F => smCall F t e M
    | none => none)
  | _ => none
section
variable {S : Sg} {w : XK} {X : Cx} {pos p : Pos} {a : Expr} {t : SmA} {es : List Expr} {k j i : Nat} {x : Str} {tab : Nat → Option Fs}
theorem e_callV (hc : ∀ n F, tab n = some F → ∃ (y : Str) (m : Nat), (∃ u, X.mg y = some u ∧ KD S (.fn n) u) ∧ CalF S X.mg X.base j y m F) (hj : j ≤ k) (hr : Room k X.A) (tk : TkW X w) (ha : PA X (a :: es) (TAf S w t)) (hN : X.N[i]? = some x := by rfl) (hv : Vis X.env.scope x := by first | exact Or.inl rfl | exact Or.inr (Or.inl rfl) | exact Or.inr (Or.inr rfl))
    (hP : X.prog = S.P := by rfl) (hW : X.w = S.w := by rfl) (hK : X.K = S.K := by rfl)
    (hdb : (x == ("__debug__" : Str)) = false := by decide) (hcd : (x == ("__classdict__" : Str)) = false := by decide) (he : starEach (a :: es) X.env = (false, eval a X.env) :: starEach es X.env := by rfl) (hpl : (backTo pos (starEach es X.env)).any (·.1) = false := by rfl) :
    PE X (.Call (.Name x p) (a :: es) [] pos) (TEf S w (smCallV tab i t)) := by
  refine ⟨fun pins s σ H Q I h => ?_⟩
  obtain ⟨W, e, M, r, q⟩ := h
  unfold smCallV at q
  split at q
  · rename_i n hn
    split at q
    · rename_i F hF
      obtain ⟨y, m, ⟨u, hy, v, rv, hz⟩, C⟩ := hc n F hF
      obtain ⟨f, fd, ps, h1, h2, h3, h4⟩ := C.ex
      have z := hz W H
      simp only [Fz] at z
      obtain ⟨b, hb1, rfl⟩ := z
      obtain rfl : u = Value.ref b := rv
      have hbf : f = b := by
        have z := h1.symm.trans hy
        cases z
        rfl
      subst hbf
      obtain ⟨v2, hv1, hv2⟩ := r.sh i _ hn
      simp only [Fz] at hv2
      obtain ⟨b2, hb2, rfl⟩ := hv2
      have hbb : b2 = f := by
        have z := hb2.symm.trans hb1
        cases z
        rfl
      subst hbb
      have h4' : FnOk X.prog X.w X.K X.mg X.base (CX X.prog X.w) j b2 fd ps (spF S m F) := by rw [hP, hW, hK]; exact h4
      have h2' : PySem.W.keepIn X.K (.ref b2) = true := by rw [hK]; exact h2
      have h3' : Binds X.K fd ps [] := by rw [hK]; exact h3
      exact (pe_callL (i := i) (f := b2) (dvs := []) h4' (hr.mono hj) hN hv h2' h3' .nil tk ha hdb hcd he hpl).run pins s σ H Q I ⟨hv1, tcall_of C.nn ⟨W, e, M, r, q⟩⟩
    · exact q.elim
  · exact q.elim
end
end EV

/-! EvY: l.index(x), l.count(x) of a variable's list. -/
namespace EV
open PySem PySem.Spec PySem.Calls PyProof.Rows L2
section
variable {X : Cx}
/-- l.count(x) -/
def rCntD (K : PySem.W.Frag) : V → List V → Hp → VK → Prop := fun x xs H Q => ∃ (a : Addr) (y : V) (d : PyData) (ds : List PyData), x = V.ref a ∧ xs = [y] ∧ Dp K H (V.ref a) (.list ds) ∧ Dp K H y d ∧ SeqAt.shaped (.list ds) = true ∧ SeqAt.shaped d = true ∧ Q (.int ((ds.countP fun z => PyData.eqv z d : Nat) : Int)) H
theorem mt_countD (hu : X.A.units + 65 < cLine) : MtR X "list.count" (rCntD X.K) := by
  intro pins s σ H x xs v us Q I rx rxs h
  obtain ⟨a, y, d, ds, rfl, rfl, hl, hy, sl, sd, q⟩ := h
  cases rx
  cases rxs with
  | cons ry rt =>
    rename_i uy ut
    cases rt
    obtain ⟨bs, r1⟩ := Dp.reads I d y uy hy ry
    have hxs : PyData.canLayAll0 ds = true := SeqAt.canLay_of_shaped sl
    have hroom : X.A.units + 1 + min (PyData.depthAll ds) d.depth < cLine := room_in_shaped sd hu
    cases hl with
    | lst hs ha =>
      obtain ⟨its, rv, ⟨⟨cls, dd, data, sls⟩, n, ho, hc, hdn, hdt⟩, hlen⟩ := I.list hs
      simp only at hc hdt
      subst hc hdt
      obtain ⟨as, h4⟩ := Dp.readsAll I ds _ its ha rv
      have hmap : its.map (SeqAt.readOf s.heap) = ds := SeqAt.readsAll_map ds its as hxs h4
      have hcnt : its.toArray.toList.countP (fun u => PyData.eqv (SeqAt.readOf s.heap u) d) = ds.countP fun z => PyData.eqv z d := by
        rw [← hmap, List.countP_map]
        rfl
      refine call_meets PySem.F.slot_list_count ⟨_, ho, rfl⟩ PySem.F.entry_list_count (PySem.F.args_list_count_2 _ _)
        (SeqAt.list_countAt a its.toArray n dd sls uy (fun u => PyData.eqv (SeqAt.readOf s.heap u) d)) ⟨ho, SeqAt.items_eqAt (vs := its.toArray) (show ReadsAll s.heap its.toArray.toList ds as from h4) r1 hxs (SeqAt.canLay_of_shaped sd) hroom, ?_⟩
      exact ⟨.int ((ds.countP fun z => PyData.eqv z d : Nat) : Int), H, I.tok _, ⟨_, by rw [hcnt]⟩, q⟩
end
/-- the place of the first equal one -/
def idxD (d : D) : List D → Option Nat
  | [] => none
  | x :: r => if beqD x d = true then some 0 else (idxD d r).map (· + 1)
def cntD (d : D) : List D → Nat
  | [] => 0
  | x :: r => if beqD x d = true then cntD d r + 1 else cntD d r
def shOk (d : D) : Bool := plain d && decide (depthD d ≤ 60)
def pIdxL : D → D → Option (Bool × D)
  | .lst xs, d => if (shOk (.lst xs) && shOk d) = true then (idxD d xs).map fun j => (false, .int (j : Nat)) else none
  | _, _ => none
def pCntL : D → D → Option (Bool × D)
  | .lst xs, d => if (shOk (.lst xs) && shOk d) = true then some (false, .int (cntD d xs : Nat)) else none
  | _, _ => none
def PrL (S : Sg) (r : V → List V → Hp → VK → Prop) (p : D → D → Option (Bool × D)) : Prop := ∀ W σ H e M d1 d2 v1 v2 own d Q, Rel S W σ H e M → Rb S W H d1 v1 → Fz S W H d2 v2 → p d1 d2 = some (own, d) → Gv S W e σ H M own d Q → r v1 [v2] H Q
theorem shaped_of {d : D} (h : shOk d = true) : plain d = true ∧ SeqAt.shaped (toPy d) = true := by
  simp only [shOk, Bool.and_eq_true, decide_eq_true_eq] at h
  refine ⟨h.1, ?_⟩
  unfold SeqAt.shaped
  rw [Bool.and_eq_true]
  exact ⟨toPy_lay _ h.1, decide_eq_true (by rw [toPy_depth _ h.1]; omega)⟩
theorem idx_py {d : D} (hp : plain d = true) : ∀ {xs : List D} {j : Nat}, plainL xs = true → idxD d xs = some j →
    ∃ z, (toPyL xs)[j]? = some z ∧ PyData.eqv z (toPy d) = true ∧ ∀ (m : Nat) (z' : PyData), m < j → (toPyL xs)[m]? = some z' → PyData.eqv z' (toPy d) = false
  | [], j, _, h => by simp [idxD] at h
  | x :: r, j, pl, h => by
    simp only [plainL, Bool.and_eq_true] at pl
    unfold idxD at h
    split at h
    · rename_i hb
      cases h
      exact ⟨toPy x, rfl, by rw [toPy_beq x d pl.1 hp]; exact hb, fun m _ hm => absurd hm (Nat.not_lt_zero m)⟩
    · rename_i hb
      cases hr : idxD d r with
      | none => rw [hr] at h; cases h
      | some i =>
        rw [hr] at h
        cases h
        obtain ⟨z, h1, h2, h3⟩ := idx_py hp pl.2 hr
        refine ⟨z, h1, h2, fun m z' hm hz => ?_⟩
        cases m with
        | zero =>
          cases hz
          rw [toPy_beq x d pl.1 hp]
          simpa using hb
        | succ m => exact h3 m z' (Nat.lt_of_succ_lt_succ hm) hz
theorem cnt_py {d : D} (hp : plain d = true) : ∀ {xs : List D}, plainL xs = true → (toPyL xs).countP (fun z => PyData.eqv z (toPy d)) = cntD d xs
  | [], _ => rfl
  | x :: r, pl => by
    simp only [plainL, Bool.and_eq_true] at pl
    simp only [toPyL, List.countP_cons, cnt_py hp pl.2, toPy_beq x d pl.1 hp]
    show cntD d r + (if beqD x d = true then 1 else 0) = if beqD x d = true then cntD d r + 1 else cntD d r
    split <;> omega
section
variable {S : Sg}
theorem prl_idx {K : PySem.W.Frag} (hK : K = S.K) : PrL S (rIndexD K) pIdxL := by
  intro W σ H e M d1 d2 v1 v2 own d Q r h1 h2 hp g
  subst hK
  unfold pIdxL at hp
  split at hp
  · rename_i q0 q1 xs
    split at hp
    · rename_i hs
      cases hj : idxD d2 xs with
      | none => rw [hj] at hp; cases hp
      | some j =>
        rw [hj] at hp
        cases hp
        simp only [Bool.and_eq_true] at hs
        obtain ⟨p1, s1⟩ := shaped_of hs.1
        obtain ⟨p2, s2⟩ := shaped_of hs.2
        have pl : plainL xs = true := by simpa only [plain] using p1
        obtain ⟨z, z1, z2, z3⟩ := idx_py p2 pl hj
        have e1 : toPy (.lst xs) = .list (toPyL xs) := by simp only [toPy]
        have hd := h1.dp p1
        rw [e1] at hd s1
        obtain ⟨a, vs, ev, ha, _⟩ := h1.lst
        subst ev
        exact ⟨a, v2, _, _, j, z, rfl, rfl, hd, h2.dp p2, s1, s2, z1, z2, z3, g.now r (by simp only [Fz])⟩
    · cases hp
  · cases hp
theorem prl_cnt {K : PySem.W.Frag} (hK : K = S.K) : PrL S (rCntD K) pCntL := by
  intro W σ H e M d1 d2 v1 v2 own d Q r h1 h2 hp g
  subst hK
  unfold pCntL at hp
  split at hp
  · rename_i q0 q1 xs
    split at hp
    · rename_i hs
      cases hp
      simp only [Bool.and_eq_true] at hs
      obtain ⟨p1, s1⟩ := shaped_of hs.1
      obtain ⟨p2, s2⟩ := shaped_of hs.2
      have pl : plainL xs = true := by simpa only [plain] using p1
      have e1 : toPy (.lst xs) = .list (toPyL xs) := by simp only [toPy]
      have hd := h1.dp p1
      rw [e1] at hd s1
      obtain ⟨a, vs, ev, ha, _⟩ := h1.lst
      subst ev
      exact ⟨a, v2, _, _, rfl, rfl, hd, h2.dp p2, s1, s2, g.now r (by simp only [Fz, cnt_py p2 pl])⟩
    · cases hp
  · cases hp
end
/-- x.m(e), x a variable whose list is read -/
def smMtL (p : D → D → Option (Bool × D)) (i : Nat) (t : SmA) : Sm := fun e M => match pk e i with
  | none => none
  | some d0 => if isLst (dr M d0) = true then bindA (t e M) fun ds e1 M1 => (match ds, pk e1 i with
    | [d2], some d1 => out1 (p (dr M1 d1) d2) e1 M1
    | _, _ => none) else none
theorem mtl_of {S : Sg} {w : XK} {K : PySem.W.Frag} {t : SmA} {r : V → List V → Hp → VK → Prop} {p : D → D → Option (Bool × D)} (hp : PrL S r p) {i : Nat} {σ : L2.St} {H : Hp} {Q : VK} (z : TEf S w (smMtL p i t) σ H Q) : tBM K "list" r (tVar i) (TAf S w t) σ H Q := by
  obtain ⟨W, e, M, r0, k⟩ := z
  unfold smMtL at k
  split at k
  · exact k.elim
  rename_i d0 h0
  split at k
  · rename_i hl
    obtain ⟨v, hv, rb⟩ := r0.pk h0
    have rb' := r0.dr rb
    refine ⟨v, hv, ?_, W, e, M, r0, KE.bindA k fun ds e1 M1 W1 H1 us r1 f1 k1 => ?_⟩
    · cases hd : EV.dr M d0 with
      | lst xs =>
        rw [hd] at rb'
        obtain ⟨a, vs, rfl, ha, _⟩ := rb'.lst
        exact .inl ⟨rfl, vs, SqL.of ha⟩
      | _ => rw [hd] at hl; cases hl
    · split at k1
      · rename_i d2 d1 h1
        obtain ⟨v', hv', rb2⟩ := r1.pk h1
        rw [hv] at hv'
        cases hv'
        obtain ⟨u, rfl, fu⟩ := f1.one
        obtain ⟨own3, d, e3, gv⟩ := KE.out1 k1
        exact hp W1 σ H1 e1 M1 _ d2 v u own3 d Q r1 (r1.dr rb2) fu e3 gv
      · exact k1.elim
  · exact k.elim
section
variable {S : Sg} {w : XK} {X : Cx} {pos apos : Pos} {a : Expr} {t : SmA} {x : Str}
theorem e_mtL (i : Nat) {id : String} {name : Str} {p3 : Pos} {r : V → List V → Hp → VK → Prop} {pm : D → D → Option (Bool × D)} (hp : PrL S r pm) (slot : Slot "list" name id) (hty : typeOf (.builtin id) = pure (.type "method_descriptor")) (hm : MtR X id r) (ha : PA X [a] (TAf S w t))
    (hN : X.N[i]? = some x) (hv : Vis X.env.scope x) (hd : (x == ("__debug__" : Str)) = false) (hcd : (x == ("__classdict__" : Str)) = false)
    (hbase : attributeBase (.Name x p3) name X.env (eval (.Name x p3) X.env) = eval (.Name x p3) X.env)
    (hfew : ((backTo pos (starEach [a] X.env)).all (fun x => !x.1) && (backToKw pos (keywordEach [] X.env)).all (fun x => x.1.isSome) && decide ([a].length + ([] : List Keyword).length + (if ([] : List Keyword).isEmpty then 0 else 1) < 30)) = true)
    (hline : (apos.endLine == pos.line) = true) (hs : starEach [a] X.env = (false, eval a X.env) :: starEach [] X.env) :
    PE X (.Call (.Attribute (.Name x p3) name apos) [a] [] pos) (TEf S w (smMtL pm i t)) :=
  peI (pe_bm F.plainAttrs_list slot hty hm (pe_var hN hv hd hcd) ha hbase hfew hline hs rfl) fun σ H Q z => mtl_of hp z
theorem hu65 {n : Nat} (r : n + 200 < cLine) : n + 65 < cLine := by omega
theorem e_indexL (i : Nat) {p3 : Pos} (hr : X.A.units + 200 < cLine) (ha : PA X [a] (TAf S w t)) (hK : X.K = S.K := by rfl) (hN : X.N[i]? = some x := by rfl) (hv : Vis X.env.scope x := by first | exact Or.inl rfl | exact Or.inr (Or.inl rfl) | exact Or.inr (Or.inr rfl)) (hd : (x == ("__debug__" : Str)) = false := by decide) (hcd : (x == ("__classdict__" : Str)) = false := by decide)
    (hbase : attributeBase (.Name x p3) "index" X.env (eval (.Name x p3) X.env) = eval (.Name x p3) X.env := by rfl)
    (hfew : ((backTo pos (starEach [a] X.env)).all (fun x => !x.1) && (backToKw pos (keywordEach [] X.env)).all (fun x => x.1.isSome) && decide ([a].length + ([] : List Keyword).length + (if ([] : List Keyword).isEmpty then 0 else 1) < 30)) = true := by rfl)
    (hline : (apos.endLine == pos.line) = true := by rfl) (hs : starEach [a] X.env = (false, eval a X.env) :: starEach [] X.env := by rfl) :
    PE X (.Call (.Attribute (.Name x p3) "index" apos) [a] [] pos) (TEf S w (smMtL pIdxL i t)) := e_mtL i (prl_idx hK) F.slot_list_index F.type_list_index (mt_indexD (hu65 hr)) ha hN hv hd hcd hbase hfew hline hs
theorem e_countL (i : Nat) {p3 : Pos} (hr : X.A.units + 200 < cLine) (ha : PA X [a] (TAf S w t)) (hK : X.K = S.K := by rfl) (hN : X.N[i]? = some x := by rfl) (hv : Vis X.env.scope x := by first | exact Or.inl rfl | exact Or.inr (Or.inl rfl) | exact Or.inr (Or.inr rfl)) (hd : (x == ("__debug__" : Str)) = false := by decide) (hcd : (x == ("__classdict__" : Str)) = false := by decide)
    (hbase : attributeBase (.Name x p3) "count" X.env (eval (.Name x p3) X.env) = eval (.Name x p3) X.env := by rfl)
    (hfew : ((backTo pos (starEach [a] X.env)).all (fun x => !x.1) && (backToKw pos (keywordEach [] X.env)).all (fun x => x.1.isSome) && decide ([a].length + ([] : List Keyword).length + (if ([] : List Keyword).isEmpty then 0 else 1) < 30)) = true := by rfl)
    (hline : (apos.endLine == pos.line) = true := by rfl) (hs : starEach [a] X.env = (false, eval a X.env) :: starEach [] X.env := by rfl) :
    PE X (.Call (.Attribute (.Name x p3) "count" apos) [a] [] pos) (TEf S w (smMtL pCntL i t)) := e_mtL i (prl_cnt hK) F.slot_list_count F.type_list_count (mt_countD (hu65 hr)) ha hN hv hd hcd hbase hfew hline hs
end
/-- a suite asked only with exceptions of the table -/
def guardX (nE : Nat) (sx : Exn → SmS) : Exn → SmS := fun z e M => if Nat.blt z.c nE = true then sx z e M else none
theorem guard_lt {nE n i : Nat} {sx : Exn → SmS} (y : Exn) (M' : Sto) (h : (runX n i (guardX nE sx) y M').isSome = true) : y.c < nE := by
  by_cases hy : Nat.blt y.c nE = true
  · exact Nat.le_of_ble_eq_true hy
  · unfold runX guardX at h
    simp only [hy] at h
    cases h
theorem su_guard {S : Sg} {X : Cx} {Ng : List Str} {x : Str} {sg : Scope} {g : Addr} {cdg : Value} {b : List Stmt} {sx : Exn → SmS} {nE : Nat} (h : SuRules S X Ng x sg g cdg b sx) : SuRules S X Ng x sg g cdg b (guardX nE sx) := by
  intro s H a oe d pn z Dc h1 h2 h3 h4
  refine ⟨fun pins s' σ H' D I ⟨W, e, M, r, k⟩ => ?_⟩
  unfold guardX at k
  split at k
  · exact (h s H a oe d pn z Dc h1 h2 h3 h4).run pins s' σ H' D I ⟨W, e, M, r, k⟩
  · exact k.elim
theorem hu_su {A : Around} {env : Env} {k : Nat} {e : Option Value} (r : Room (k + 1) A) : ((A.deeper env).mark e).units + 200 < cLine := by
  have := r.un
  show A.units + 3 + 200 < _
  omega
end EV

/-! EvHd: what the head has to tell for the semantic text. -/
namespace EV
open PySem PySem.Spec PySem.Calls PyProof.Rows L2

/-! ### constants -/
mutual
def kdB (K : PySem.W.Frag) : D → Value → Bool
  | .non, u => He.relB .non u
  | .bl b, u => He.relB (.bl b) u
  | .int i, u => He.relB (.int i) u
  | .str x, u => He.relB (.str x) u
  | .tup xs, u => match u with
    | .ref a => (match K.lookup a with
      | some ⟨.type c, _, .seq its _, _⟩ => decide (c = "tuple") && (decide (its.size ≤ sizeLine) && kdBL K xs its.toList)
      | _ => false)
    | _ => false
  | _, _ => false
def kdBL (K : PySem.W.Frag) : List D → List Value → Bool
  | [], us => us.isEmpty
  | d :: ds, us => match us with
    | u :: r => kdB K d u && kdBL K ds r
    | [] => false
end
mutual
theorem kdB_ok {S : Sg} : ∀ {d : D} {u : Value}, kdB S.K d u = true → KD S d u
  | .non, u, h => by simp only [kdB] at h; exact ⟨.non, He.relB_ok h, fun W H => by simp only [Fz]⟩
  | .bl b, u, h => by simp only [kdB] at h; exact ⟨.bl b, He.relB_ok h, fun W H => by simp only [Fz]⟩
  | .int i, u, h => by simp only [kdB] at h; exact ⟨.int i, He.relB_ok h, fun W H => by simp only [Fz]⟩
  | .str x, u, h => by simp only [kdB] at h; exact ⟨.str x, He.relB_ok h, fun W H => by simp only [Fz]⟩
  | .tup xs, u, h => by
    simp only [kdB] at h
    split at h
    · rename_i a
      split at h
      · rename_i c od its n sl hl
        simp only [Bool.and_eq_true, decide_eq_true_eq] at h
        obtain ⟨hc, hz, hr⟩ := h
        obtain ⟨vs, r1, f1⟩ := kdBL_ok hr
        refine ⟨.ref a, rfl, fun W H => ?_⟩
        simp only [Fz]
        refine ⟨a, vs, rfl, .inr (.inr ?_), f1 W H⟩
        exact ⟨_, its, n, hl, congrArg Value.type hc, rfl, hz, r1⟩
      · cases h
    · cases h
  | .lst xs, u, h => by simp only [kdB] at h; cases h
  | .dct _ _, u, h => by simp only [kdB] at h; cases h
  | .fn _, u, h => by simp only [kdB] at h; cases h
  | .rf _, u, h => by simp only [kdB] at h; cases h
  | .scr, u, h => by simp only [kdB] at h; cases h
  | .exn, u, h => by simp only [kdB] at h; cases h
theorem kdBL_ok {S : Sg} : ∀ {ds : List D} {us : List Value}, kdBL S.K ds us = true → ∃ vs, Vals vs us ∧ ∀ W H, FzL S W H ds vs
  | [], us, h => by
    simp only [kdBL] at h
    obtain rfl := List.isEmpty_iff.mp h
    exact ⟨[], .nil, fun W H => FzL.nil⟩
  | d :: ds, us, h => by
    simp only [kdBL] at h
    split at h
    · rename_i u r
      simp only [Bool.and_eq_true] at h
      obtain ⟨v, h1, h2⟩ := kdB_ok h.1
      obtain ⟨vs, h3, h4⟩ := kdBL_ok h.2
      exact ⟨v :: vs, .cons h1 h3, fun W H => FzL.cons (h2 W H) (h4 W H)⟩
    · cases h
end
def gdB (K : PySem.W.Frag) (x : Str) (d : D) : Bool := match PySem.W.nsIn K mainGlobals x with
  | some (some u) => kdB K d u
  | _ => false
theorem gdB_ok {S : Sg} {h : Heap} {mg : Str → Option Value} (X : S.K.In h) (G : h.Ns mainGlobals mg) {x : Str} {d : D} (c : gdB S.K x d = true) : ∃ u, mg x = some u ∧ KD S d u := by
  unfold gdB at c
  split at c
  · rename_i u hu
    exact ⟨u, PySem.W.mg_of X G hu, kdB_ok c⟩
  · cases c

/-! ### exceptions -/
def excB (K : PySem.W.Frag) (D : Addr) : Bool :=
  He.eqO (PySem.W.findIn K (.ref D) "__getattribute__") (some (some (.builtin "BaseException.__getattribute__"))) && (He.eqO (PySem.W.findIn K (.ref D) "__getattr__") (some none) && (decide (PySem.W.subIn K (.ref D) (.type "BaseException") = some true) && (PySem.W.hasDictIn K D &&
  (He.eqO (PySem.W.findIn K (.ref D) "__class__") (some (some (.builtin "object.__class__"))) && (He.eqO (PySem.W.specialIn K (.builtin "object.__class__") "__get__") (some (some (.builtin "getset_descriptor.__get__"))) && (decide (PySem.W.takesIn K (.builtin "object.__class__") = some true) && decide (PySem.W.mroIn K D (.type "object") = some true)))))))
theorem excB_ok {K : PySem.W.Frag} {D : Addr} (h : excB K D = true) : ExcC K D := by
  simp only [excB, Bool.and_eq_true, decide_eq_true_eq] at h
  obtain ⟨h1, h2, h3, h4, h5, h6, h7, h8⟩ := h
  exact ⟨He.eqO_ok h1, He.eqO_ok h2, h3, h4, He.eqO_ok h5, He.eqO_ok h6, h7, h8⟩
/-- a number's address: an exception's class, a function -/
def faOf (K : PySem.W.Frag) (ex fns : List Str) (c : Nat) : Option Addr := if Nat.blt c 20 = true then (ex[c]?).map (He.ga K) else (fns[c - 20]?).map (He.ga K)
def etB (K : PySem.W.Frag) (ex flds : List Str) : Bool :=
  (ex.all fun x => excB K (He.ga K x) && (xfB K (He.ga K x) && flds.all fun f => He.eqO (PySem.W.findIn K (.ref (He.ga K x)) f) (some none))) &&
  ((List.range ex.length).all fun i => (List.range ex.length).all fun j => match ex[i]?, ex[j]? with
    | some x, some y => decide (PySem.W.kitOne K (.ref (He.ga K x)) (.ref (He.ga K y)) = some (i == j || j == 0)) && (!(j == 0) || decide (PySem.W.exmOne K (.ref (He.ga K x)) (.ref (He.ga K y)) = some true))
    | _, _ => false)
theorem etB_ok {S : Sg} {ex flds fns : List Str} (h : etB S.K ex flds = true) (hf : S.fa = faOf S.K ex fns) (hl : ex.length < 20) : ExcTab S ex.length flds := by
  simp only [etB, Bool.and_eq_true] at h
  obtain ⟨h1, h2⟩ := h
  have fa : ∀ {c : Nat} {x : Str}, ex[c]? = some x → S.fa c = some (He.ga S.K x) := fun {c x} hx => by
    have hc : c < ex.length := by
      obtain ⟨z, _⟩ := List.getElem?_eq_some_iff.mp hx
      exact z
    rw [hf]
    unfold faOf
    have e20 : Nat.blt c 20 = true := Nat.ble_eq_true_of_le (show c + 1 ≤ 20 by omega)
    rw [if_pos e20, hx]
    rfl
  have pr : ∀ {i j : Nat} {x y : Str}, ex[i]? = some x → ex[j]? = some y → PySem.W.kitOne S.K (.ref (He.ga S.K x)) (.ref (He.ga S.K y)) = some (i == j || j == 0) ∧ (j = 0 → PySem.W.exmOne S.K (.ref (He.ga S.K x)) (.ref (He.ga S.K y)) = some true) := fun {i j x y} hx hy => by
    obtain ⟨hi, _⟩ := List.getElem?_eq_some_iff.mp hx
    obtain ⟨hj, _⟩ := List.getElem?_eq_some_iff.mp hy
    have z := List.all_eq_true.mp (List.all_eq_true.mp h2 i (List.mem_range.mpr hi)) j (List.mem_range.mpr hj)
    rw [hx, hy] at z
    simp only [Bool.and_eq_true, decide_eq_true_eq, Bool.or_eq_true] at z
    refine ⟨z.1, fun hj0 => ?_⟩
    rcases z.2 with z | z
    · rw [hj0] at z; cases z
    · exact z
  have at_ : ∀ {c : Nat}, c < ex.length → ∃ x, ex[c]? = some x := fun {c} hc => ⟨ex[c], List.getElem?_eq_getElem hc⟩
  refine ⟨fun c hc => ?_, fun c t D E hc ht hD hE => ?_, fun c D E hc hD hE => ?_⟩
  · obtain ⟨x, hx⟩ := at_ hc
    have z := List.all_eq_true.mp h1 x (List.mem_of_getElem? hx)
    simp only [Bool.and_eq_true] at z
    exact ⟨_, fa hx, excB_ok z.1, xfB_ok z.2.1, fun f hf => He.eqO_ok (List.all_eq_true.mp z.2.2 f hf)⟩
  · obtain ⟨x, hx⟩ := at_ hc
    obtain ⟨y, hy⟩ := at_ ht
    rw [fa hx] at hD
    rw [fa hy] at hE
    cases hD
    cases hE
    exact (pr hx hy).1
  · obtain ⟨x, hx⟩ := at_ hc
    obtain ⟨y, hy⟩ := at_ (Nat.lt_of_le_of_lt (Nat.zero_le c) hc)
    rw [fa hx] at hD
    rw [fa hy] at hE
    cases hD
    cases hE
    exact (pr hx hy).2 rfl
/-- C's own __init__: its text, as the head sees it -/
abbrev IniV : Type := Option (Str × Str × Arguments × FuncBody × Scope × Addr × List Str × Addr)
def iniObs (K : PySem.W.Frag) (x : Str) : IniV := match K.lookup (He.ma K (He.ga K x) "__init__") with
  | some ⟨_, _, .func fd, _⟩ => some (fd.name, fd.qualname, fd.params, fd.body, fd.scope, fd.globals, fd.closure.map (·.1), fd.builtins)
  | _ => none
structure IniD where
  x : Str
  qual : Str
  params : Arguments
  body : List Stmt
  scope : Scope
def IniD.val (d : IniD) : IniV := some ("__init__", d.qual, d.params, .stmts d.body, d.scope, mainGlobals, ["__class__"], builtinsNs)
def oexB (K : PySem.W.Frag) (C : Addr) : Bool := (match K.lookup C with
  | some ⟨.type t, _, .cls cd, sl⟩ => decide (t = "type") && ((match cd.mro with
    | .ref D :: bm => decide (D = C) && PySem.HandSPX.refsVE bm
    | _ => false) && (cd.hasDict && (!cd.hasDel && (match sl.toList with
    | [_, _, _, _, some (.builtin n), _] => decide (n = "ValueError.__new__")
    | _ => false))))
  | _ => false) && (He.eqO (PySem.W.findIn K (.ref C) "__setattr__") (some (some (.builtin "object.__setattr__"))) && (decide (PySem.W.subIn K (.ref C) (.type "BaseException") = some true) && (decide (PySem.W.typeIn K (.ref C) = some (.type "type")) && PySem.W.keepIn K (.ref C))))
theorem oexB_ok {K : PySem.W.Frag} {C : Addr} (h : oexB K C = true) : OexC K C := by
  simp only [oexB, Bool.and_eq_true, decide_eq_true_eq] at h
  obtain ⟨h0, h1, h2, h3, h4⟩ := h
  refine ⟨?_, He.eqO_ok h1, h2, h3, h4⟩
  split at h0
  · rename_i t dd cd sl hC
    simp only [Bool.and_eq_true, decide_eq_true_eq, Bool.not_eq_true'] at h0
    obtain ⟨e1, e2, e3, e4, e5⟩ := h0
    split at e2
    · rename_i D bm hm
      simp only [Bool.and_eq_true, decide_eq_true_eq] at e2
      split at e5
      · rename_i k0 k1 k2 k3 n k5 hs
        have e5 := of_decide_eq_true e5
        obtain ⟨nm, bs, mro, ns, qn, hd, sn, sb, ab, col, del⟩ := cd
        simp only at hm e3 e4
        subst hm e3 e4 e1 e5
        have hsl : sl = #[k0, k1, k2, k3, some (.builtin "ValueError.__new__"), k5] := Array.toList_inj.mp (by rw [hs])
        rw [hsl, e2.1] at hC
        exact ⟨_, _, _, _, _, _, _, _, _, _, _, _, _, _, _, hC, e2.2⟩
      · cases e5
    · cases e2
  · cases h0
/-- what is wanted of C's own __init__ -/
def iniB (K : PySem.W.Frag) (file x qual : Str) (flds : List Str) : Bool :=
  oexB K (He.ga K x) && (He.eqO (PySem.W.findIn K (.ref (He.ga K x)) "__init__") (some (some (.ref (He.ma K (He.ga K x) "__init__")))) && (decide (PySem.W.typeIn K (.ref (He.ma K (He.ga K x) "__init__")) = some (.type "function")) &&
  ((match K.lookup (He.ma K (He.ga K x) "__init__") with
    | some ⟨_, _, .func fd, _⟩ => (match fd.defaults with
      | .none => PySem.W.codeIn K fd.code qual
      | _ => false) && ((match fd.code with
      | .ref cda => (match K.lookup cda with
        | some ⟨_, _, .fields vs, _⟩ => (match vs.toList with
          | _ :: _ :: .str y _ :: _ => file == y
          | _ => false)
        | _ => false)
      | _ => false) && (match fd.closure with
        | [(_, cc)] => (match K.lookup cc with
          | some ⟨_, _, .cell (some (.ref D)), _⟩ => decide (D = He.ga K x)
          | _ => false)
        | _ => false))
    | _ => false) && (decide (PySem.W.mroIn K (He.ga K x) (.ref (He.ga K x)) = some true) && (decide (PySem.W.subIn K (.ref (He.ga K x)) (.type "ValueError") = some true) &&
    (decide (PySem.W.ks_superIn K (He.ga K x) (He.ga K x) "__init__" = some (some (.builtin "ValueError.__init__"))) && (He.eqO (PySem.W.nsIn K cStatics "thirdparty.any") (some none) && flds.all fun f => He.eqO (PySem.W.findIn K (.ref (He.ga K x)) f) (some none))))))))
/-- the parts -/
theorem iniB_parts {K : PySem.W.Frag} {file x : Str} {d : IniD} {flds : List Str} (h : iniB K file x d.qual flds = true) (hx : d.x = x) (ho : iniObs K x = d.val) :
    ∃ (cc cda : Addr) (oc cl ccl : Value) (od cld cdd an : Option Addr) (osl csl ccs : Array (Option Value)) (kV doc pm ct : Value) (vs : Array Value) (fl : Str) (tf : Tok), OexC K (He.ga K x) ∧ PySem.W.findIn K (.ref (He.ga K x)) "__init__" = some (some (.ref (He.ma K (He.ga K x) "__init__"))) ∧
      PySem.W.typeIn K (.ref (He.ma K (He.ga K x) "__init__")) = some (.type "function") ∧ K.lookup (He.ma K (He.ga K x) "__init__") = some ⟨oc, od, .func (PySem.W.ksFn "__init__" d.qual d.params d.body d.scope .none kV doc pm an (.ref cda) ct cc), osl⟩ ∧ PySem.W.codeIn K (.ref cda) d.qual = true ∧
      K.lookup cda = some ⟨ccl, cdd, .fields vs, ccs⟩ ∧ vs[2]? = some (.str fl tf) ∧ (file == fl) = true ∧ K.lookup cc = some ⟨cl, cld, .cell (some (.ref (He.ga K x))), csl⟩ ∧ PySem.W.mroIn K (He.ga K x) (.ref (He.ga K x)) = some true ∧ PySem.W.subIn K (.ref (He.ga K x)) (.type "ValueError") = some true ∧
      PySem.W.ks_superIn K (He.ga K x) (He.ga K x) "__init__" = some (some (.builtin "ValueError.__init__")) ∧ PySem.W.nsIn K cStatics "thirdparty.any" = some none ∧ ∀ f ∈ flds, PySem.W.findIn K (.ref (He.ga K x)) f = some none := by
  simp only [iniB, Bool.and_eq_true, decide_eq_true_eq] at h
  obtain ⟨h1, h2, h3, h4, h5, h6, h7, h8, h9⟩ := h
  unfold iniObs at ho
  split at h4
  · rename_i oc od fd osl hI
    simp only [Bool.and_eq_true] at h4
    obtain ⟨c1, c2, c3⟩ := h4
    rw [hI] at ho
    split at c1
    rename_i hdf
    split at c2
    · rename_i cda hcd
      split at c2
      · rename_i ccl cdd vs ccs hcda
        split at c2
        · rename_i v0 v1 fl tf rest hvs
          split at c3
          · rename_i cn cc hcl
            split at c3
            · rename_i cl cld D csl hcc
              have c3 := of_decide_eq_true c3
              subst c3
              obtain ⟨nm, qn, ps, bd, sc, gl, clo, dV, kV, doc, pm, an, cv, ct, bns⟩ := fd
              simp only at hcd hcl hdf
              subst hcd hcl hdf
              have ho : (some (nm, qn, ps, bd, sc, gl, [cn], bns) : IniV) = d.val := ho
              unfold IniD.val at ho
              simp only [Option.some.injEq, Prod.mk.injEq, List.cons.injEq, and_true] at ho
              obtain ⟨e1, e2, e3, e4, e5, e6, e7, e8⟩ := ho
              subst e1 e2 e3 e4 e5 e6 e7 e8
              refine ⟨cc, cda, oc, cl, ccl, od, cld, cdd, _, osl, csl, ccs, _, _, _, _, vs, fl, tf, oexB_ok h1, He.eqO_ok h2, h3, hI, c1, hcda, ?_, c2, hcc, h5, h6, h7, He.eqO_ok h8, fun f hf => He.eqO_ok (List.all_eq_true.mp h9 f hf)⟩
              rw [← Array.getElem?_toList, hvs]
              rfl
            · cases c3
          · cases c3
        · cases c2
      · cases c2
    · cases c2
    · cases c1
  · cases h4
section
variable {S : Sg} {mg : Str → Option Value} {x : Str} {c : Nat} {f f2 n n2 sf : Str} {d : IniD} {p0 p1 p2 p3 p4 p5 p6 p7 p8 p9 q0 q1 q2 q3 q4 : Pos} {ar : Arg}
theorem xif1 (hfa : S.fa c = some (He.ga S.K x)) (hmg : mg x = some (.ref (He.ga S.K x))) (hB : iniB S.K S.P.main.file x d.qual [f] = true) (hx : d.x = x) (ho : iniObs S.K x = d.val) (hsup : mg "super" = none) (htop : (S.P.main.scope.names.lookup ("super" : Str)).isSome = false)
    (hbody : d.body = ib1 p0 p1 p2 p3 p4 p5 p6 p7 p8 p9 sf n f)
    (hk : d.scope.kind = .function) (hco : d.scope.isCoroutine = false) (hge : d.scope.isGenerator = false) (hkc0 : ∀ x ∈ d.scope.names, x.2 ≠ .cell) (hks : d.scope.names.lookup ("super" : Str) = some .globalImplicit) (hkc : d.scope.names.lookup ("__class__" : Str) = some .free)
    (h1 : d.scope.names.lookup sf = some .local) (h2 : d.scope.names.lookup n = some .local) (hne : (sf == n) = false) (d1 : (sf == ("__debug__" : Str)) = false) (d2 : (n == ("__debug__" : Str)) = false)
    (hp : (d.params.posonlyargs ++ d.params.args).head? = some ar) (har : ar.arg = sf)
    (hev : ∀ fI cda cc L, ∃ pl, HEV fI cda cc d.qual d.scope L p0 p1 p2 p3 [.Name n p9] pl) (hint : ∀ fI cda cc L, interactive (PySem.W.ksEnv d.qual d.scope L fI (.ref cda) cc) = false)
    (hbind : ∀ (body : List Stmt) (kV doc pm : Value) (an : Option Addr) (cdv ct : Value) (cc : Addr) (v u : Value), bindArgs (PySem.W.ksFn "__init__" d.qual d.params body d.scope .none kV doc pm an cdv ct cc) ⟨[v, u], []⟩ = pure [(sf, v), (n, u)]) : XiF S mg x c [f] := by
  obtain ⟨cc, cda, oc, cl, ccl, od, cld, cdd, an, osl, csl, ccs, kV, doc, pm, ct, vs, fl, tf, hO, hI, hT, lk, hci, hcd, hvs, hfl, hcc, hm, hv, hs, hop, hno⟩ := iniB_parts hB hx ho
  refine ⟨⟨He.ga S.K x, _, hfa, hmg, hO, hI, hT, fun {w A s a t0 us mb R} hl X hXa G B hmb lim room he fin => ?_⟩, by simp, by simp⟩
  rw [hbody] at lk
  match us, hl with
  | [u], _ =>
    exact init_run1 (u := u) hO lk hci hcd hvs hfl hcc hm hv hs hop (hno f (.head _)) (pl := fun L => Classical.choose (hev (He.ma S.K (He.ga S.K x) "__init__") cda cc L)) (fun L => Classical.choose_spec (hev (He.ma S.K (He.ga S.K x) "__init__") cda cc L)) (fun L => hint _ cda cc L) hXa hk hco hge hkc0 hks hkc h1 h2 hne d1 d2 hp har htop
      (fun v u => BindsTo.of_eq (hbind _ _ _ _ _ _ _ _ v u)) X G hsup B hmb lim room he fin
theorem xif2 (hfa : S.fa c = some (He.ga S.K x)) (hmg : mg x = some (.ref (He.ga S.K x))) (hB : iniB S.K S.P.main.file x d.qual [f, f2] = true) (hx : d.x = x) (ho : iniObs S.K x = d.val) (hsup : mg "super" = none) (htop : (S.P.main.scope.names.lookup ("super" : Str)).isSome = false)
    (hbody : d.body = ib2 p0 p1 p2 p3 p4 p5 p6 p7 p8 p9 q0 q1 q2 q3 q4 sf n n2 f f2)
    (hk : d.scope.kind = .function) (hco : d.scope.isCoroutine = false) (hge : d.scope.isGenerator = false) (hkc0 : ∀ x ∈ d.scope.names, x.2 ≠ .cell) (hks : d.scope.names.lookup ("super" : Str) = some .globalImplicit) (hkc : d.scope.names.lookup ("__class__" : Str) = some .free)
    (h1 : d.scope.names.lookup sf = some .local) (h2 : d.scope.names.lookup n = some .local) (h3 : d.scope.names.lookup n2 = some .local) (hne : (sf == n) = false) (hne2 : (sf == n2) = false) (hne3 : (n == n2) = false) (d3 : (n2 == ("__debug__" : Str)) = false) (d1 : (sf == ("__debug__" : Str)) = false) (d2 : (n == ("__debug__" : Str)) = false)
    (hp : (d.params.posonlyargs ++ d.params.args).head? = some ar) (har : ar.arg = sf)
    (hev : ∀ fI cda cc L, ∃ pl, HEV fI cda cc d.qual d.scope L p0 p1 p2 p3 [.Name n p9, .Name n2 q0] pl) (hint : ∀ fI cda cc L, interactive (PySem.W.ksEnv d.qual d.scope L fI (.ref cda) cc) = false)
    (hbind : ∀ (body : List Stmt) (kV doc pm : Value) (an : Option Addr) (cdv ct : Value) (cc : Addr) (v u u2 : Value), bindArgs (PySem.W.ksFn "__init__" d.qual d.params body d.scope .none kV doc pm an cdv ct cc) ⟨[v, u, u2], []⟩ = pure [(sf, v), (n, u), (n2, u2)]) : XiF S mg x c [f, f2] := by
  obtain ⟨cc, cda, oc, cl, ccl, od, cld, cdd, an, osl, csl, ccs, kV, doc, pm, ct, vs, fl, tf, hO, hI, hT, lk, hci, hcd, hvs, hfl, hcc, hm, hv, hs, hop, hno⟩ := iniB_parts hB hx ho
  refine ⟨⟨He.ga S.K x, _, hfa, hmg, hO, hI, hT, fun {w A s a t0 us mb R} hl X hXa G B hmb lim room he fin => ?_⟩, by simp, by simp⟩
  rw [hbody] at lk
  match us, hl with
  | [u, u2], _ =>
    exact init_run2 (u := u) (u2 := u2) hO lk hci hcd hvs hfl hcc hm hv hs hop (hno f (.head _)) (hno f2 (.tail _ (.head _))) (pl := fun L => Classical.choose (hev (He.ma S.K (He.ga S.K x) "__init__") cda cc L)) (fun L => Classical.choose_spec (hev (He.ma S.K (He.ga S.K x) "__init__") cda cc L)) (fun L => hint _ cda cc L) hXa hk hco hge hkc0 hks hkc h1 h2 h3 hne hne2 hne3 d3 d1 d2 hp har htop
      (fun v u u2 => BindsTo.of_eq (hbind _ _ _ _ _ _ _ _ v u u2)) X G hsup B hmb lim room he fin
end

/-! ### the Hook: the facts by names, the own __init__s -/
def fragI (n : Nat) (g : Addr → Option Obj) : PySem.W.Frag := He.frT g (cStatics :: He.asD g n)
abbrev AlI : Type := He.AlX × List IniV
def obsI (n : Nat) (fa : List He.Fa) (fn : List He.DefD) (ini : List IniD) (tf : List He.Defn) (ex : PySem.W.Frag → Bool) (g : Addr → Option Obj) : AlI :=
  ((He.obsT fa fn [] (fragI n g), ex (fragI n g) && He.tabsB g tf (fragI n g)), ini.map fun d => iniObs (fragI n g) d.x)
def valI (fn : List He.DefD) (ini : List IniD) (w : World) : AlI := (He.valX fn [] w, ini.map IniD.val)
structure SaysI (fa : List He.Fa) (fn : List He.DefD) (ini : List IniD) (tf : List He.Defn) (ex : PySem.W.Frag → Bool) (w : World) (h : Heap) (K : PySem.W.Frag) : Prop where
  x : He.SaysX fa fn [] tf ex w h K
  ini : ini.map (fun d => iniObs K d.x) = ini.map IniD.val
theorem saysI_of {n : Nat} {fa : List He.Fa} {fn : List He.DefD} {ini : List IniD} {tf : List He.Defn} {ex : PySem.W.Frag → Bool} {w : World} {h : Heap} (e : obsI n fa fn ini tf ex h.get? = valI fn ini w) : SaysI fa fn ini tf ex w h (fragI n h.get?) := by
  obtain ⟨e0, e3⟩ := Prod.mk.inj e
  obtain ⟨e1, e2⟩ := Prod.mk.inj e0
  obtain ⟨x1, x2⟩ := Bool.and_eq_true_iff.mp e2
  have tab : ∀ p ∈ tf, PySem.W.codeHdIn (fragI n h.get?) (He.cT (fragI n h.get?) p).1 (He.cT (fragI n h.get?) p).2 = true ∧ ∃ o, h.get? (He.cT (fragI n h.get?) p).2 = some o ∧ He.emptyTab o = true := by
    intro p hp
    obtain ⟨y1, y2⟩ := Bool.and_eq_true_iff.mp (List.all_eq_true.mp x2 p hp)
    refine ⟨y1, ?_⟩
    split at y2
    · rename_i o ho
      exact ⟨o, ho, y2⟩
    · cases y2
  refine ⟨⟨e1, x1, fun p hp => (tab p hp).1, fun p hp => ?_, fun p hp => ?_⟩, e3⟩
  · obtain ⟨_, o, ho, hz⟩ := tab p hp
    exact He.frT_none ho hz
  · obtain ⟨_, o, ho, hz⟩ := tab p hp
    rw [ho, He.emptyTab_eq hz]
def hookI (n : Nat) (fa : List He.Fa) (fn : List He.DefD) (ini : List IniD) (tf : List He.Defn) (ex : PySem.W.Frag → Bool) : PySem.W.Hook where
  α := AlI
  obs s := obsI n fa fn ini tf ex s.heap.get?
  val w := valI fn ini w
  says w h := ∃ K : PySem.W.Frag, K.In h ∧ SaysI fa fn ini tf ex w h K
  of _ _ e := ⟨_, He.frT_in, saysI_of e⟩
  keeps _ _ _ := fun ⟨K, hK, c⟩ k => ⟨K, PySem.W.Frag.In.keeps hK k, ⟨⟨c.x.t, c.x.more, c.x.hd, c.x.out, fun p hp => k _ _ (c.x.empty p hp)⟩, c.ini⟩⟩
theorem obsI_eq {n : Nat} {fa : List He.Fa} {fn : List He.DefD} {ini : List IniD} {tf : List He.Defn} {ex : PySem.W.Frag → Bool} {g : Addr → Option Obj} {s : Shared} (h : ∀ a, g a = s.heap.get? a) : obsI n fa fn ini tf ex g = (hookI n fa fn ini tf ex).obs s := by
  have e : g = s.heap.get? := funext h
  subst e
  rfl
theorem SaysI.ob {fa : List He.Fa} {fn : List He.DefD} {ini : List IniD} {tf : List He.Defn} {ex : PySem.W.Frag → Bool} {w : World} {h : Heap} {K : PySem.W.Frag} (c : SaysI fa fn ini tf ex w h K) (i : Nat) {d : IniD} (hd : ini[i]? = some d) : iniObs K d.x = d.val := by
  have z := congrArg (fun l : List IniV => l[i]?) c.ini
  simp only [List.getElem?_map, hd, Option.map_some] at z
  exact Option.some.inj z
theorem all_at {l : List Bool} (h : l.all id = true) (i : Nat) {b : Bool} (hi : l[i]? = some b) : b = true := List.all_eq_true.mp h b (List.mem_of_getElem? hi)
/-- the law, started at the script -/
theorem start_sp {S : Sg} {F : Fs} {H : Hp} (hT : LamX.Tabs S.T H) (hs : SqL S.K H S.sa (S.ns.map V.int)) (hF : ∃ M, F [.scr] [] = some (.ok false (.bl true), M)) : spF S 1 F [.ref S.sa] H (fun v _ => v = .bl true) (fun _ _ _ => False) := by
  obtain ⟨M, hF⟩ := hF
  have nn : ∀ {b : Addr}, ¬ Own [] [] b := fun {b} z => own_nil z
  have fin : ∀ W : Wd, KE S (fun _ _ _ => False) W [] [] H (upE (F [.scr] []) []) (fun v _ => v = .bl true) := fun W => by
    rw [hF]
    intro W' H' v r p q
    have q : Fz S W' H' (.bl true) v := q
    simpa only [Fz] using q
  rcases hs with hs | hs
  · have ho : ∃ o, H S.sa = some o ∧ ∀ ps, o ≠ .tbl ps := by
      rcases hs with hs | ⟨o, hs⟩
      · exact ⟨_, hs, fun ps z => by cases z⟩
      · exact ⟨_, hs, fun ps z => by cases z⟩
    refine ⟨rfl, ⟨fun b => b = S.sa, []⟩, [.scr], [], ⟨rfl, fun i d h => by simp at h, fun i d h => by simp at h, fun i j d d' a h => by simp at h, rfl, fun n o h => by simp at h, ⟨List.nodup_nil, hT⟩, fun b hb => ⟨by rw [hb]; exact ho, by simp, nn⟩, fun b hb => absurd hb nn⟩, FzL.cons ?_ FzL.nil, fin _⟩
    simp only [Fz]
    exact ⟨trivial, .inl ⟨trivial, hs⟩⟩
  · refine ⟨rfl, ⟨fun b => False, []⟩, [.scr], [], ⟨rfl, fun i d h => by simp at h, fun i d h => by simp at h, fun i j d d' a h => by simp at h, rfl, fun n o h => by simp at h, ⟨List.nodup_nil, hT⟩, fun b hb => hb.elim, fun b hb => absurd hb nn⟩, FzL.cons ?_ FzL.nil, fin _⟩
    simp only [Fz]
    exact ⟨trivial, .inr (.inr hs)⟩
theorem tabs_one {H : Hp} {P : Addr} {q : Str} (h : H P = some (.tbl #[])) : LamX.Tabs [(P, q)] H := fun p hp => by
  rw [List.mem_singleton.mp hp]
  exact ⟨#[], h, trivial, fun pos cv z => by cases z⟩
theorem cx_no {P : Program} {w : World} {H : Hp} {s s' : Shared} {e : Value} (h : CX P w [] H s (fun _ _ _ => False) e s') : False := by
  obtain ⟨a, B, H', cls, d, h1, h2, h3, h4, h5, h6, h7, h8⟩ := h
  exact h8
theorem fnok_ex {ι : Type} {P : Program} {w : World} {K : PySem.W.Frag} {mg : Str → Option Value} {base : Heap} {C : CXT} {k : Nat} {f : Addr} {fd : FuncData} {ps : List Str} {sp : ι → Sp} (h : ∀ i, FnOk P w K mg base C k f fd ps (sp i)) : FnOk P w K mg base C k f fd ps (fun vs H Q E => ∃ i, sp i vs H Q E) :=
  ⟨fun vs H Q E ⟨i, z⟩ => (h i).len vs H Q E z, fun A outer s H args us vs Q E hr he hb hv ⟨i, z⟩ => (h i).run A outer s H args us vs Q E hr he hb hv z⟩
theorem tbOf {K : PySem.W.Frag} {mg : Str → Option Value} {fad : Addr} {cdv : Value} {fd : FuncData} {x q : Str} {params : Arguments} {body : List Stmt} {scope : Scope} (hx : mg x = some (.ref fad)) (hg : mg x = some (.ref (He.ga K x))) (F : FunD K x q params body scope [] [] (He.ga K x) fd) (hc : CodeIs K fad cdv) :
    cdv = .ref (He.cT K (x, none)).1 := by
  have e := hx.symm.trans hg
  cases e
  obtain ⟨oc, od, fd2, sl, lk, e2⟩ := hc
  obtain ⟨oc', od', dV, kV, doc, pm, an, cdv', ct, osl, rfl, lk', hcd, _, _⟩ := F.ex
  have z := lk.symm.trans lk'
  have e3 : fd2.code = cdv' := by
    have z2 := congrArg (fun o : Option Obj => match o with | some ⟨_, _, .func f, _⟩ => f.code | _ => .none) z
    exact z2
  obtain ⟨c, hcc⟩ := He.codeIn_ref hcd
  have e4 : fd2.code = .ref c := e3.trans hcc
  have e5 : He.codeOf K (x, none) = c := He.codeOf_eq (p := (x, none)) lk e4
  show cdv = .ref (He.codeOf K (x, none))
  rw [e5, ← e2, e4]
end EV

/-! EvPl: runs of the semantics, step by step. -/
namespace EV
open PySem PySem.Spec
section
variable {e e1 e2 : Env'} {M M1 M2 : Sto} {s t : SmS} {f g c : Sm} {o o1 o2 b : Bool} {d d1 d2 : D} {r : RoS} {i np n : Nat} {ds : List D} {p : D → D → Option (Bool × D)}
theorem seq_nx (h : s e M = some (.nx, e1, M1)) (k : t e1 M1 = r) : ssSeq s t e M = r := by unfold ssSeq seqS; rw [h]; exact k
theorem seq_rt (h : s e M = some (.rt o d, e1, M1)) : ssSeq s t e M = some (.rt o d, e1, M1) := by unfold ssSeq seqS; rw [h]
theorem seq_ex {x : Exn} (h : s e M = some (.exc x, e1, M1)) : ssSeq s t e M = some (.exc x, e1, M1) := by unfold ssSeq seqS; rw [h]
theorem if_t (h : c e M = some (.ok o (.bl b), e1, M1)) (hb : b = true) (k : s e1 M1 = r) : ssIf c s t e M = r := by unfold ssIf bindTS; rw [h]; subst hb; exact k
theorem if_f (h : c e M = some (.ok o (.bl b), e1, M1)) (hb : b = false) (k : t e1 M1 = r) : ssIf c s t e M = r := by unfold ssIf bindTS; rw [h]; subst hb; exact k
theorem op2_ok (h1 : f e M = some (.ok o1 d1, e1, M1)) (h2 : g e1 M1 = some (.ok o2 d2, e2, M2)) (hp : p d1 d2 = some (o, d)) : smOp2 p f g e M = some (.ok o d, e2, M2) := by
  unfold smOp2 bindS out1; rw [h1]; dsimp only; rw [h2]; dsimp only; rw [hp]
theorem asg_ok (h : f e M = some (.ok o d, e1, M1)) : ssAsg i f e M = some (.nx, e1.set i (some (o, d)), M1) := by unfold ssAsg bindES; rw [h]
theorem put_ok (h : f e M = some (.ok o d, e1, M1)) (hk : pk e1 i = some d2) (h2 : g e1 M1 = some (.ok o2 d1, e2, M2)) (k : putAt i d1 d e2 M2 = r) : ssPut f i g e M = r := by
  unfold ssPut bindES; rw [h]; dsimp only; rw [hk]; dsimp only; rw [h2]; exact k
theorem ret_ok (h : f e M = some (.ok o d, e1, M1)) : ssRet f e M = some (.rt o d, e1, M1) := by unfold ssRet bindES; rw [h]
theorem runB_rt {body : SmS} (hl : ds.length = np) (h : body (init n ds) M = some (.rt o d, e1, M1)) : runB np n body ds M = some (.ok o d, M1) := by unfold runB; rw [if_pos hl, h]
theorem pMod_ok {i j : Int} (h : j ≠ 0) : pMod (.int i) (.int j) = some (false, .int (i.fmod j)) := if_pos (c := decide (j ≠ 0) = true) (decide_eq_true h)
theorem pDiv_ok {i j : Int} (h : j ≠ 0) (h2 : small30 j = true) : pDiv (.int i) (.int j) = some (false, .int (i.fdiv j)) := if_pos (c := (decide (j ≠ 0) && small30 j) = true) (by rw [decide_eq_true h, h2]; rfl)
theorem pMul_ok {i j : Int} (h : in64 j = true) : pMul (.int i) (.int j) = some (false, .int (i * j)) := if_pos (c := (in64 i || in64 j) = true) (by rw [h, Bool.or_true])
theorem cb1_ok {pf : List D → Option (Bool × D)} (h : f e M = some (.ok o1 d1, e1, M1)) (hp : pf [d1] = some (o, d)) : smCB pf (saCons f saNil) e M = some (.ok o d, e1, M1) := by
  unfold smCB saCons saNil bindA bindSA bindAA out1; rw [h]; dsimp only; rw [hp]
theorem call_ok {F : Fs} {t : SmA} {x : Out} (h : t e M = some (.ok ds, e1, M1)) (hF : F ds M1 = some (x, M2)) : smCall F t e M = some (x, e1, M2) := by
  unfold smCall bindA upE; rw [h]; dsimp only; rw [hF]; rfl
theorem told_ex {n1 n2 : Nat} {su : Exn → SmS} {ov : Bool → D → Option (Bool × D)} {x : Exn} (h : f e M = some (.exc x, e1, M1)) (hr : runX n1 n2 su x M1 = some (.ok o d, M2)) : smTold n1 n2 su ov f e M = some (.ok o d, e1, M2) := by
  unfold smTold upE; rw [h]; dsimp only; rw [hr]; rfl
theorem mut_ok {mu : Mut} {t : SmA} {rr : Ro} (hk : pk e i = some d) (hl : isLst (dr M d) = true) (h : t e M = some (.ok ds, e1, M1)) (k : mutAt mu i ds e1 M1 = rr) : smMut mu i t e M = rr := by
  unfold smMut bindA; rw [hk]; dsimp only; rw [if_pos hl, h]; exact k
theorem expr_ok (h : f e M = some (.ok o d, e1, M1)) : ssExpr f e M = some (.nx, e1, M1) := by unfold ssExpr bindES; rw [h]
theorem sa1_ok (h : f e M = some (.ok o d, e1, M1)) : saCons f saNil e M = some (.ok [d], e1, M1) := by unfold saCons saNil bindSA bindAA; rw [h]
theorem asgT_ok {as : D → Env' → Option Env'} (h : f e M = some (.ok o d, e1, M1)) (k : as d e1 = some e2) : ssAsgT as f e M = some (.nx, e2, M1) := by unfold ssAsgT bindES; rw [h]; dsimp only; rw [k]
theorem for_inv {as : D → Env' → Option Env'} {body : SmS} (I : Env' → Sto → Prop) (hs : ∀ d e M, I e M → ∃ e1 e2 M2, as d e = some e1 ∧ body e1 M = some (.nx, e2, M2) ∧ I e2 M2) : ∀ (ds : List D) (e : Env') (M : Sto), I e M → ∃ e2 M2, forL as body ds e M = some (.nx, e2, M2) ∧ I e2 M2
  | [], e, M, h => ⟨e, M, rfl, h⟩
  | d :: r, e, M, h => by
    obtain ⟨e1, e2, M2, h1, h2, h3⟩ := hs d e M h
    obtain ⟨e4, M4, h4, h5⟩ := for_inv I hs r e2 M2 h3
    refine ⟨e4, M4, ?_, h5⟩
    show (match as d e with | none => none | some e1 => seqS (body e1 M) (forL as body r)) = _
    rw [h1]; dsimp only; rw [h2]; exact h4
theorem for_ok {as : D → Env' → Option Env'} {fi : SmA} {body : SmS} (h : fi e M = some (.ok ds, e1, M1)) (k : forL as body ds e1 M1 = r) : ssFor as fi body e M = r := by unfold ssFor bindAS; rw [h]; exact k
theorem sa_ok {t : SmA} (h : f e M = some (.ok o d, e1, M1)) (k : t e1 M1 = some (.ok ds, e2, M2)) : saCons f t e M = some (.ok (d :: ds), e2, M2) := by unfold saCons bindSA bindAA; rw [h]; dsimp only; rw [k]
theorem tup_ok {t : SmA} (h : t e M = some (.ok ds, e1, M1)) (hl : ds.length ≤ sizeLine) : smTup t e M = some (.ok false (.tup ds), e1, M1) := by unfold smTup bindA; rw [h]; dsimp only; rw [if_pos hl]
end
end EV

namespace LW
open PySem PySem.Spec PyProof.Rows L2 EV
def topS (i : Nat) : Stmt := PySem.Challenge.pw_undoscopes_k14_texts_refused.main.body.getD i (.Pass ⟨0, 0, 0, 0⟩)
def c0 : Str := mkS [115, 99, 111, 112, 101]
theorem c0_eq : c0 = Str.ofString "scope" := by kernel_rfl
def c1 : Str := mkS [98, 111, 116, 104]
theorem c1_eq : c1 = Str.ofString "both" := by kernel_rfl
def c2 : Str := mkS [116, 104, 101, 110]
theorem c2_eq : c2 = Str.ofString "then" := by kernel_rfl
def c3 : Str := mkS [116, 114, 121]
theorem c3_eq : c3 = Str.ofString "try" := by kernel_rfl
def c4 : Str := mkS [100, 111]
theorem c4_eq : c4 = Str.ofString "do" := by kernel_rfl
def c5 : Str := mkS [114, 101, 115, 116]
theorem c5_eq : c5 = Str.ofString "rest" := by kernel_rfl
def c6 : Str := mkS [111, 102, 102]
theorem c6_eq : c6 = Str.ofString "off" := by kernel_rfl
def c7 : Str := mkS [32]
theorem c7_eq : c7 = Str.ofString " " := by kernel_rfl
def c8 : Str := mkS []
theorem c8_eq : c8 = Str.ofString "" := by kernel_rfl
def c9 : Str := mkS [48, 49, 50, 51, 52, 53, 54, 55, 56, 57]
theorem c9_eq : c9 = Str.ofString "0123456789" := by kernel_rfl
def c10 : Str := mkS [97, 98, 99, 100, 101, 102, 103, 104, 105, 106, 107, 108]
theorem c10_eq : c10 = Str.ofString "abcdefghijkl" := by kernel_rfl
def c11 : Str := mkS [63]
theorem c11_eq : c11 = Str.ofString "?" := by kernel_rfl
def c12 : Str := mkS [117, 110, 100, 111]
theorem c12_eq : c12 = Str.ofString "undo" := by kernel_rfl
def c13 : Str := mkS [45]
theorem c13_eq : c13 = Str.ofString "-" := by kernel_rfl
def c14 : Str := mkS [58]
theorem c14_eq : c14 = Str.ofString ":" := by kernel_rfl
def c15 : Str := mkS [119, 105, 108, 108]
theorem c15_eq : c15 = Str.ofString "will" := by kernel_rfl
def c16 : Str := mkS [117, 110, 100, 105, 100]
theorem c16_eq : c16 = Str.ofString "undid" := by kernel_rfl
def c17 : Str := mkS [110, 111, 116]
theorem c17_eq : c17 = Str.ofString "not" := by kernel_rfl
def c18 : Str := mkS [100, 105, 100]
theorem c18_eq : c18 = Str.ofString "did" := by kernel_rfl
def c19 : Str := mkS [46]
theorem c19_eq : c19 = Str.ofString "." := by kernel_rfl
def c20 : Str := mkS [112, 97, 112, 101, 114]
theorem c20_eq : c20 = Str.ofString "paper" := by kernel_rfl
def c21 : Str := mkS [108, 111, 103]
theorem c21_eq : c21 = Str.ofString "log" := by kernel_rfl
def c22 : Str := mkS [114, 111, 119]
theorem c22_eq : c22 = Str.ofString "row" := by kernel_rfl
def c23 : Str := mkS [112, 108, 97, 110]
theorem c23_eq : c23 = Str.ofString "plan" := by kernel_rfl
def c24 : Str := mkS [116, 101, 120, 116]
theorem c24_eq : c24 = Str.ofString "text" := by kernel_rfl
def c25 : Str := mkS [111, 116, 104, 101, 114]
theorem c25_eq : c25 = Str.ofString "other" := by kernel_rfl
def c26 : Str := mkS [98, 97, 114, 101]
theorem c26_eq : c26 = Str.ofString "bare" := by kernel_rfl
def c27 : Str := mkS [102, 108, 97, 116]
theorem c27_eq : c27 = Str.ofString "flat" := by kernel_rfl
def c28 : Str := mkS [100, 111, 110, 101]
theorem c28_eq : c28 = Str.ofString "done" := by kernel_rfl
def c29 : Str := mkS [97]
theorem c29_eq : c29 = Str.ofString "a" := by kernel_rfl
def c30 : Str := mkS [45, 58, 111, 117, 116, 32]
theorem c30_eq : c30 = Str.ofString "-:out " := by kernel_rfl
def c31 : Str := mkS [45, 58, 111, 117, 116]
theorem c31_eq : c31 = Str.ofString "-:out" := by kernel_rfl
def c32 : Str := mkS [45, 45, 58, 111, 117, 116]
theorem c32_eq : c32 = Str.ofString "--:out" := by kernel_rfl
def c33 : Str := mkS [45, 58, 111, 117, 116, 58, 114, 101, 115, 116]
theorem c33_eq : c33 = Str.ofString "-:out:rest" := by kernel_rfl
def c34 : Str := mkS [48, 46, 49, 58, 111, 117, 116, 32, 120]
theorem c34_eq : c34 = Str.ofString "0.1:out x" := by kernel_rfl
def c35 : Str := mkS [48, 46, 58, 102, 108, 97, 116]
theorem c35_eq : c35 = Str.ofString "0.:flat" := by kernel_rfl
def c36 : Str := mkS [48, 48, 58, 102, 108, 97, 116]
theorem c36_eq : c36 = Str.ofString "00:flat" := by kernel_rfl
def c37 : Str := mkS [48, 58, 102, 108, 97, 116, 32, 50, 52, 58, 102, 108, 97, 116]
theorem c37_eq : c37 = Str.ofString "0:flat 24:flat" := by kernel_rfl
def c38 : Str := mkS [58, 102, 108, 97, 116]
theorem c38_eq : c38 = Str.ofString ":flat" := by kernel_rfl
def c39 : Str := mkS [45, 58, 70, 108, 97, 116]
theorem c39_eq : c39 = Str.ofString "-:Flat" := by kernel_rfl
def c40 : Str := mkS [111, 102, 102, 32, 45, 97]
theorem c40_eq : c40 = Str.ofString "off -a" := by kernel_rfl
def c41 : Str := mkS [111, 102, 102, 32]
theorem c41_eq : c41 = Str.ofString "off " := by kernel_rfl
def c42 : Str := mkS [119, 105, 108, 108, 58, 97, 58, 98]
theorem c42_eq : c42 = Str.ofString "will:a:b" := by kernel_rfl
def c43 : Str := mkS [119, 105, 108, 108, 58, 97, 98]
theorem c43_eq : c43 = Str.ofString "will:ab" := by kernel_rfl
def c44 : Str := mkS [87, 105, 108, 108, 58, 97]
theorem c44_eq : c44 = Str.ofString "Will:a" := by kernel_rfl
def c45 : Str := mkS [111, 102, 102, 58, 97]
theorem c45_eq : c45 = Str.ofString "off:a" := by kernel_rfl
def c46 : Str := mkS [100, 105, 100, 58, 97, 32, 100, 111, 110, 101, 58, 97]
theorem c46_eq : c46 = Str.ofString "did:a done:a" := by kernel_rfl
def c47 : Str := mkS [119, 105, 108, 108, 58, 109]
theorem c47_eq : c47 = Str.ofString "will:m" := by kernel_rfl
def c48 : Str := mkS [119, 105, 108, 108, 58]
theorem c48_eq : c48 = Str.ofString "will:" := by kernel_rfl
def c49 : Str := mkS [97, 98]
theorem c49_eq : c49 = Str.ofString "ab" := by kernel_rfl
def c50 : Str := mkS [97, 32, 45, 111, 102, 102]
theorem c50_eq : c50 = Str.ofString "a -off" := by kernel_rfl
def c51 : Str := mkS [97, 32]
theorem c51_eq : c51 = Str.ofString "a " := by kernel_rfl
def c52 : Str := mkS [97, 44, 32, 98]
theorem c52_eq : c52 = Str.ofString "a, b" := by kernel_rfl
def c53 : Str := mkS [97, 32, 45, 98, 32, 45, 45, 99]
theorem c53_eq : c53 = Str.ofString "a -b --c" := by kernel_rfl
def c54 : Str := mkS [79, 102, 102]
theorem c54_eq : c54 = Str.ofString "Off" := by kernel_rfl
def c55 : Str := mkS [97, 32, 109]
theorem c55_eq : c55 = Str.ofString "a m" := by kernel_rfl
def c56 : Str := mkS [116, 104, 101, 110, 50, 32, 97, 32, 116, 104, 101, 110, 50, 32, 98, 32, 97]
theorem c56_eq : c56 = Str.ofString "then2 a then2 b a" := by kernel_rfl
def c57 : Str := mkS [116, 104, 101, 110, 50, 32, 116, 104, 101, 110, 49, 50]
theorem c57_eq : c57 = Str.ofString "then2 then12" := by kernel_rfl
def c58 : Str := mkS [32, 114, 101, 115, 116]
theorem c58_eq : c58 = Str.ofString " rest" := by kernel_rfl
def c59 : Str := mkS [32, 116, 104, 101, 110, 49, 51]
theorem c59_eq : c59 = Str.ofString " then13" := by kernel_rfl
def c60 : Str := mkS [116, 104, 101, 110, 50, 53]
theorem c60_eq : c60 = Str.ofString "then25" := by kernel_rfl
def c61 : Str := mkS [63, 97]
theorem c61_eq : c61 = Str.ofString "?a" := by kernel_rfl
def c62 : Str := mkS [116, 104, 101, 110, 51, 32, 97, 32, 98, 63, 32, 97]
theorem c62_eq : c62 = Str.ofString "then3 a b? a" := by kernel_rfl
def c63 : Str := mkS [116, 104, 101, 110, 50, 32, 97, 32, 97, 63]
theorem c63_eq : c63 = Str.ofString "then2 a a?" := by kernel_rfl
def c64 : Str := mkS [115, 99, 111, 112, 101, 50, 32, 97, 32, 98]
theorem c64_eq : c64 = Str.ofString "scope2 a b" := by kernel_rfl
def c65 : Str := mkS [115, 99, 111, 112, 101, 32]
theorem c65_eq : c65 = Str.ofString "scope " := by kernel_rfl
def c66 : Str := mkS [116, 104, 101, 110, 50, 32, 97, 32, 98, 32, 99]
theorem c66_eq : c66 = Str.ofString "then2 a b c" := by kernel_rfl
def c67 : Str := mkS [100, 111, 32, 97]
theorem c67_eq : c67 = Str.ofString "do a" := by kernel_rfl
def c68 : Str := mkS [98, 111, 116, 104, 50, 32, 97, 32, 82, 101, 115, 116]
theorem c68_eq : c68 = Str.ofString "both2 a Rest" := by kernel_rfl
def c69 : Str := mkS [97, 32, 98]
theorem c69_eq : c69 = Str.ofString "a b" := by kernel_rfl
def c70 : Str := mkS [114, 101, 115, 116, 32, 114, 101, 115, 116]
theorem c70_eq : c70 = Str.ofString "rest rest" := by kernel_rfl
def c71 : Str := mkS [97, 63, 63]
theorem c71_eq : c71 = Str.ofString "a??" := by kernel_rfl
def c72 : Str := mkS [98, 111, 116, 104, 48, 50, 32, 97, 32, 98]
theorem c72_eq : c72 = Str.ofString "both02 a b" := by kernel_rfl
def c73 : Str := mkS [98, 111, 116, 104, 49, 32, 97]
theorem c73_eq : c73 = Str.ofString "both1 a" := by kernel_rfl
def c74 : Str := mkS [116, 104, 101, 110, 50, 53, 32, 97, 32, 98]
theorem c74_eq : c74 = Str.ofString "then25 a b" := by kernel_rfl
def c75 : Str := mkS [116, 104, 101, 110, 50, 32, 97]
theorem c75_eq : c75 = Str.ofString "then2 a" := by kernel_rfl
def c76 : Str := mkS [109]
theorem c76_eq : c76 = Str.ofString "m" := by kernel_rfl
def c77 : Str := mkS [99, 108, 101, 97, 110]
def c78 : Str := mkS [105, 110, 110, 101, 114]
def c79 : Str := mkS [108, 97, 115, 116]
def c80 : Str := mkS [111, 117, 116]
def c81 : Str := mkS [116, 117, 114, 110, 101, 100]
def k_REST : D := .tup [.str c5]
def k_KINDS : D := .tup [.str c4, .str c6, .str c12]
def k_ENTRIES : D := .tup [.str c18, .str c17, .str c6, .str c16, .str c15]
def k_RULES : D := .tup [.str c77, .str c27, .str c78, .str c79, .str c80, .str c5, .str c81]
structure Gx (S : Sg) (mg : Str → Option Value) (base : Heap) : Prop where
  d_is_integer : ∃ fad fd, mg "is_integer" = some (.ref fad) ∧ FunD S.K "is_integer" "is_integer" (C8.fnArgs (topS 9)) (C8.fnBody (topS 9)) (C8.fnScope (topS 9)) [] [] fad fd
  d_is_in : ∃ fad fd, mg "is_in" = some (.ref fad) ∧ FunD S.K "is_in" "is_in" (C8.fnArgs (topS 10)) (C8.fnBody (topS 10)) (C8.fnScope (topS 10)) [] [] fad fd
  d_is_list : ∃ fad fd, mg "is_list" = some (.ref fad) ∧ FunD S.K "is_list" "is_list" (C8.fnArgs (topS 11)) (C8.fnBody (topS 11)) (C8.fnScope (topS 11)) [] [] fad fd
  d_is_plan : ∃ fad fd, mg "is_plan" = some (.ref fad) ∧ FunD S.K "is_plan" "is_plan" (C8.fnArgs (topS 16)) (C8.fnBody (topS 16)) (C8.fnScope (topS 16)) [] [] fad fd
  d_parts_of : ∃ fad fd, mg "parts_of" = some (.ref fad) ∧ FunD S.K "parts_of" "parts_of" (C8.fnArgs (topS 17)) (C8.fnBody (topS 17)) (C8.fnScope (topS 17)) [] [] fad fd
  d_leaves_in : ∃ fad fd, mg "leaves_in" = some (.ref fad) ∧ FunD S.K "leaves_in" "leaves_in" (C8.fnArgs (topS 18)) (C8.fnBody (topS 18)) (C8.fnScope (topS 18)) [] [] fad fd
  d_words_in : ∃ fad fd, mg "words_in" = some (.ref fad) ∧ FunD S.K "words_in" "words_in" (C8.fnArgs (topS 19)) (C8.fnBody (topS 19)) (C8.fnScope (topS 19)) [] [] fad fd
  d_need_plan : ∃ fad fd, mg "need_plan" = some (.ref fad) ∧ FunD S.K "need_plan" "need_plan" (C8.fnArgs (topS 20)) (C8.fnBody (topS 20)) (C8.fnScope (topS 20)) [] [] fad fd
  d_need_row : ∃ fad fd, mg "need_row" = some (.ref fad) ∧ FunD S.K "need_row" "need_row" (C8.fnArgs (topS 24)) (C8.fnBody (topS 24)) (C8.fnScope (topS 24)) [] [] fad fd
  d_need_log : ∃ fad fd, mg "need_log" = some (.ref fad) ∧ FunD S.K "need_log" "need_log" (C8.fnArgs (topS 28)) (C8.fnBody (topS 28)) (C8.fnScope (topS 28)) [] [] fad fd
  d_need_paper : ∃ fad fd, mg "need_paper" = some (.ref fad) ∧ FunD S.K "need_paper" "need_paper" (C8.fnArgs (topS 32)) (C8.fnBody (topS 32)) (C8.fnScope (topS 32)) [] [] fad fd
  d_need_text : ∃ fad fd, mg "need_text" = some (.ref fad) ∧ FunD S.K "need_text" "need_text" (C8.fnArgs (topS 36)) (C8.fnBody (topS 36)) (C8.fnScope (topS 36)) [] [] fad fd
  d_words_of : ∃ fad fd, mg "words_of" = some (.ref fad) ∧ FunD S.K "words_of" "words_of" (C8.fnArgs (topS 37)) (C8.fnBody (topS 37)) (C8.fnScope (topS 37)) [] [] fad fd
  d_number_of : ∃ fad fd, mg "number_of" = some (.ref fad) ∧ FunD S.K "number_of" "number_of" (C8.fnArgs (topS 38)) (C8.fnBody (topS 38)) (C8.fnScope (topS 38)) [] [] fad fd
  d_plan_words : ∃ fad fd, mg "plan_words" = some (.ref fad) ∧ FunD S.K "plan_words" "plan_words" (C8.fnArgs (topS 39)) (C8.fnBody (topS 39)) (C8.fnScope (topS 39)) [] [] fad fd
  d_write_plan : ∃ fad fd, mg "write_plan" = some (.ref fad) ∧ FunD S.K "write_plan" "write_plan" (C8.fnArgs (topS 40)) (C8.fnBody (topS 40)) (C8.fnScope (topS 40)) [] [] fad fd
  d_head_of : ∃ fad fd, mg "head_of" = some (.ref fad) ∧ FunD S.K "head_of" "head_of" (C8.fnArgs (topS 41)) (C8.fnBody (topS 41)) (C8.fnScope (topS 41)) [] [] fad fd
  d_plan_at : ∃ fad fd, mg "plan_at" = some (.ref fad) ∧ FunD S.K "plan_at" "plan_at" (C8.fnArgs (topS 42)) (C8.fnBody (topS 42)) (C8.fnScope (topS 42)) [] [] fad fd
  d_read_plan : ∃ fad fd, mg "read_plan" = some (.ref fad) ∧ FunD S.K "read_plan" "read_plan" (C8.fnArgs (topS 43)) (C8.fnBody (topS 43)) (C8.fnScope (topS 43)) [] [] fad fd
  d_write_row : ∃ fad fd, mg "write_row" = some (.ref fad) ∧ FunD S.K "write_row" "write_row" (C8.fnArgs (topS 44)) (C8.fnBody (topS 44)) (C8.fnScope (topS 44)) [] [] fad fd
  d_label_of : ∃ fad fd, mg "label_of" = some (.ref fad) ∧ FunD S.K "label_of" "label_of" (C8.fnArgs (topS 45)) (C8.fnBody (topS 45)) (C8.fnScope (topS 45)) [] [] fad fd
  d_read_row : ∃ fad fd, mg "read_row" = some (.ref fad) ∧ FunD S.K "read_row" "read_row" (C8.fnArgs (topS 46)) (C8.fnBody (topS 46)) (C8.fnScope (topS 46)) [] [] fad fd
  d_write_log : ∃ fad fd, mg "write_log" = some (.ref fad) ∧ FunD S.K "write_log" "write_log" (C8.fnArgs (topS 47)) (C8.fnBody (topS 47)) (C8.fnScope (topS 47)) [] [] fad fd
  d_entry_of : ∃ fad fd, mg "entry_of" = some (.ref fad) ∧ FunD S.K "entry_of" "entry_of" (C8.fnArgs (topS 48)) (C8.fnBody (topS 48)) (C8.fnScope (topS 48)) [] [] fad fd
  d_read_log_text : ∃ fad fd, mg "read_log_text" = some (.ref fad) ∧ FunD S.K "read_log_text" "read_log_text" (C8.fnArgs (topS 49)) (C8.fnBody (topS 49)) (C8.fnScope (topS 49)) [] [] fad fd
  d_place_text : ∃ fad fd, mg "place_text" = some (.ref fad) ∧ FunD S.K "place_text" "place_text" (C8.fnArgs (topS 50)) (C8.fnBody (topS 50)) (C8.fnScope (topS 50)) [] [] fad fd
  d_write_paper : ∃ fad fd, mg "write_paper" = some (.ref fad) ∧ FunD S.K "write_paper" "write_paper" (C8.fnArgs (topS 51)) (C8.fnBody (topS 51)) (C8.fnScope (topS 51)) [] [] fad fd
  d_step_of : ∃ fad fd, mg "step_of" = some (.ref fad) ∧ FunD S.K "step_of" "step_of" (C8.fnArgs (topS 52)) (C8.fnBody (topS 52)) (C8.fnScope (topS 52)) [] [] fad fd
  d_read_paper : ∃ fad fd, mg "read_paper" = some (.ref fad) ∧ FunD S.K "read_paper" "read_paper" (C8.fnArgs (topS 53)) (C8.fnBody (topS 53)) (C8.fnScope (topS 53)) [] [] fad fd
  d_law_taken : ∃ fad fd, mg "_law_taken" = some (.ref fad) ∧ FunD S.K "_law_taken" "_law_taken" (C8.fnArgs (topS 55)) (C8.fnBody (topS 55)) (C8.fnScope (topS 55)) [] [] fad fd
  d_law_pick : ∃ fad fd, mg "_law_pick" = some (.ref fad) ∧ FunD S.K "_law_pick" "_law_pick" (C8.fnArgs (topS 56)) (C8.fnBody (topS 56)) (C8.fnScope (topS 56)) [] [] fad fd
  d_law_told : ∃ fad fd, mg "_law_told" = some (.ref fad) ∧ FunD S.K "_law_told" "_law_told" (C8.fnArgs (topS 57)) (C8.fnBody (topS 57)) (C8.fnScope (topS 57)) [] [] fad fd
  d_law : ∃ fad fd, mg "law" = some (.ref fad) ∧ FunD S.K "law" "law" (C8.fnArgs (topS 58)) (C8.fnBody (topS 58)) (C8.fnScope (topS 58)) [] [] fad fd
  b_bool : mg "bool" = none
  b_isinstance : mg "isinstance" = none
  b_int : mg "int" = none
  b_len : mg "len" = none
  b_tuple : mg "tuple" = none
  b_all : mg "all" = none
  i_MOST_WORDS : ∃ t, mg "MOST_WORDS" = some (.int 12 t)
  b_str : mg "str" = none
  k_REST : ∃ u, mg "REST" = some u ∧ KD S k_REST u
  b_set : mg "set" = none
  r_BadPlan : XcF S mg "BadPlan" 1
  i_MOST_DEEP : ∃ t, mg "MOST_DEEP" = some (.int 40 t)
  b_enumerate : mg "enumerate" = none
  r_BadRow : XiF S mg "BadRow" 2 ["index"]
  k_KINDS : ∃ u, mg "KINDS" = some u ∧ KD S k_KINDS u
  i_MOST_ROW : ∃ t, mg "MOST_ROW" = some (.int 40 t)
  r_BadLog : XiF S mg "BadLog" 4 ["index"]
  k_ENTRIES : ∃ u, mg "ENTRIES" = some u ∧ KD S k_ENTRIES u
  i_MOST_LOG : ∃ t, mg "MOST_LOG" = some (.int 60 t)
  k_RULES : ∃ u, mg "RULES" = some u ∧ KD S k_RULES u
  r_BadPaper : XiF S mg "BadPaper" 3 ["index"]
  i_MOST_STEPS : ∃ t, mg "MOST_STEPS" = some (.int 1000 t)
  r_NotText : XcF S mg "NotText" 5
  s_FIGURES : ∃ t, mg "FIGURES" = some (.str c9 t)
  s_WORDS : ∃ t, mg "WORDS" = some (.str c10 t)
  b_range : mg "range" = none
  r_InvalidText : XiF S mg "InvalidText" 6 ["line", "word"]
  e_BadPaper : ∃ E, S.fa 3 = some E ∧ mg "BadPaper" = some (.ref E)
  e_BadLog : ∃ E, S.fa 4 = some E ∧ mg "BadLog" = some (.ref E)
  e_BadRow : ∃ E, S.fa 2 = some E ∧ mg "BadRow" = some (.ref E)
  e_BadPlan : ∃ E, S.fa 1 = some E ∧ mg "BadPlan" = some (.ref E)
  e_NotText : ∃ E, S.fa 5 = some E ∧ mg "NotText" = some (.ref E)
  e_InvalidText : ∃ E, S.fa 6 = some E ∧ mg "InvalidText" = some (.ref E)
  e_ScopeError : ∃ E, S.fa 0 = some E ∧ mg "ScopeError" = some (.ref E)
  f_read_paper : ∃ u, mg "read_paper" = some u ∧ KD S (.fn 48) u
  f_read_log_text : ∃ u, mg "read_log_text" = some u ∧ KD S (.fn 44) u
  f_read_row : ∃ u, mg "read_row" = some u ∧ KD S (.fn 41) u
  f_read_plan : ∃ u, mg "read_plan" = some u ∧ KD S (.fn 38) u
  et : ExcTab S 7 ["index", "line", "word"]
  xp : S.xp = none
  tb : ∀ fad cdv, mg "law" = some (.ref fad) → CodeIs S.K fad cdv → ∃ c P, cdv = .ref c ∧ LamX.TabB base mg c P ∧ S.T = [(P, ("law.<locals>." : Str) ++ ("<lambda>" : Str))]
/-! is_integer -/
abbrev N_is_integer : List Str := ["value"]
theorem nd_is_integer : N_is_integer.Nodup := by decide +kernel
theorem sc_is_integer : FnScope N_is_integer ["value"] (C8.fnScope (topS 9)) := ⟨rfl, rfl, rfl, nd_is_integer, rfl, by decide +kernel, by decide +kernel⟩
def sm_is_integer (ns : List Int) : SmS := (ssRet (smAnd (smOp1 (pIs1 .int) (smV 0)) (smNot (smOp1 (pIs1 .bl) (smV 0)))))
def F_is_integer (ns : List Int) : Fs := runB 1 1 (sm_is_integer ns)
theorem ok_is_integer {S : Sg} {mg : Str → Option Value} {base : Heap} (G : Gx S mg base) : CalF S mg base 1 "is_integer" 1 (F_is_integer S.ns) := by
  obtain ⟨fad, fd, hx, F⟩ := G.d_is_integer
  have nd := nd_is_integer
  refine cal_ok (N := N_is_integer) (k := 0) (sm := sm_is_integer S.ns) hx F sc_is_integer (fun _ _ _ _ _ _ us hl => match us, hl with | [_], _ => rfl) fun cdv A outer s H E hr => ?_
  exact (ss_one (ss_ret (se_and (e_isi .int rfl (e_var 0) G.b_int G.b_isinstance) (se_one (se_not (e_isi .bl rfl (e_var 0) G.b_bool G.b_isinstance))))))
/-! is_in -/
abbrev N_is_in : List Str := ["value", "least", "most"]
theorem nd_is_in : N_is_in.Nodup := by decide +kernel
theorem sc_is_in : FnScope N_is_in ["value", "least", "most"] (C8.fnScope (topS 10)) := ⟨rfl, rfl, rfl, nd_is_in, rfl, by decide +kernel, by decide +kernel⟩
def sm_is_in (ns : List Int) : SmS := (ssRet (smAnd (smCall (F_is_integer ns) (saCons (smV 0) saNil)) (smChain pLe pLe (smV 1) (smV 0) (smV 2))))
def F_is_in (ns : List Int) : Fs := runB 3 3 (sm_is_in ns)
theorem ok_is_in {S : Sg} {mg : Str → Option Value} {base : Heap} (G : Gx S mg base) : CalF S mg base 2 "is_in" 3 (F_is_in S.ns) := by
  obtain ⟨fad, fd, hx, F⟩ := G.d_is_in
  have nd := nd_is_in
  refine cal_ok (N := N_is_in) (k := 1) (sm := sm_is_in S.ns) hx F sc_is_in (fun _ _ _ _ _ _ us hl => match us, hl with | [_, _, _], _ => rfl) fun cdv A outer s H E hr => ?_
  exact (ss_one (ss_ret (se_and (e_call (ok_is_integer G) (by omega) hr tk_body (a_cons (e_var 0) sa_nil)) (se_one (e_chain c_le c_le (e_var 1) (e_var 0) (e_var 2))))))
/-! is_list -/
abbrev N_is_list : List Str := ["value", "least", "most"]
theorem nd_is_list : N_is_list.Nodup := by decide +kernel
theorem sc_is_list : FnScope N_is_list ["value", "least", "most"] (C8.fnScope (topS 11)) := ⟨rfl, rfl, rfl, nd_is_list, rfl, by decide +kernel, by decide +kernel⟩
def sm_is_list (ns : List Int) : SmS := (ssRet (smAnd (smOp1 (pIs1 .tup) (smV 0)) (smChain pLe pLe (smV 1) (smCB (pLen ns) (saCons (smV 0) saNil)) (smV 2))))
def F_is_list (ns : List Int) : Fs := runB 3 3 (sm_is_list ns)
theorem ok_is_list {S : Sg} {mg : Str → Option Value} {base : Heap} (G : Gx S mg base) : CalF S mg base 1 "is_list" 3 (F_is_list S.ns) := by
  obtain ⟨fad, fd, hx, F⟩ := G.d_is_list
  have nd := nd_is_list
  refine cal_ok (N := N_is_list) (k := 0) (sm := sm_is_list S.ns) hx F sc_is_list (fun _ _ _ _ _ _ us hl => match us, hl with | [_, _, _], _ => rfl) fun cdv A outer s H E hr => ?_
  exact (ss_one (ss_ret (se_and (e_isi .tup rfl (e_var 0) G.b_tuple G.b_isinstance) (se_one (e_chain c_le c_le (e_var 1) (e_len rfl G.b_len (a_cons (e_var 0) sa_nil)) (e_var 2))))))
/-! is_plan -/
abbrev N_is_plan : List Str := ["plan", "deep", "kind", "rest", "part"]
theorem nd_is_plan : N_is_plan.Nodup := by decide +kernel
theorem sc_is_plan : FnScope N_is_plan ["plan", "deep"] (C8.fnScope (topS 16)) := ⟨rfl, rfl, rfl, nd_is_plan, rfl, by decide +kernel, by decide +kernel⟩
def sm_is_plan (ns : List Int) (self : Fs) : SmS := (ssSeq (ssIf (smOr (smOp2 pEq (smV 1) (smC (.int 0))) (smOr (smNot (smCall (F_is_list ns) (saCons (smV 0) (saCons (smC (.int 1)) (saCons (smOp2 pAdd (smOp2 pMul (smC (.int 2)) (smC (.int 12))) (smC (.int 1))) saNil))))) (smNot (smOp1 (pIs1 .str) (smOp2 (pIxS ns) (smV 0) (smC (.int 0))))))) (ssRet (smC (.bl false))) ssNil)
  (ssSeq (ssPar2 2 3 (smOp2 (pIxS ns) (smV 0) (smC (.int 0))) (smSl (smV 0) (some (smC (.int 1))) none))
  (ssSeq (ssIf (smOp2 pEq (smV 2) (smC (.str c5))) (ssRet (smOp2 pEq (smV 3) (smTup saNil))) ssNil)
  (ssSeq (ssIf (smOp2 pIn (smV 2) (smTup (saCons (smC (.str c4)) (saCons (smC (.str c3)) saNil)))) (ssRet (smAnd (smOp2 pEq (smCB (pLen ns) (saCons (smV 3) saNil)) (smC (.int 1))) (smCall (F_is_in ns) (saCons (smOp2 (pIxS ns) (smV 3) (smC (.int 0))) (saCons (smC (.int 0)) (saCons (smOp2 pSub (smC (.int 12)) (smC (.int 1))) saNil)))))) ssNil)
  (ssSeq (ssIf (smOp2 pIn (smV 2) (smTup (saCons (smC (.str c2)) (saCons (smC (.str c1)) saNil)))) (ssRet (smAnd (smOp2 pGt (smCB (pLen ns) (saCons (smV 3) saNil)) (smC (.int 1))) (smCB pAll (saCons (smLc [4] (asN 4) (smIt (smV 3)) (smC (.bl true)) (smCall self (saCons (smV 4) (saCons (smOp2 pSub (smV 1) (smC (.int 1))) saNil)))) saNil)))) ssNil)
  (ssRet (smAnd (smOp2 pEq (smV 2) (smC (.str c0))) (smAnd (smOp2 pEq (smCB (pLen ns) (saCons (smV 3) saNil)) (smC (.int 1))) (smCall self (saCons (smOp2 (pIxS ns) (smV 3) (smC (.int 0))) (saCons (smOp2 pSub (smV 1) (smC (.int 1))) saNil)))))))))))
def F_is_plan (ns : List Int) : Nat → Fs
  | 0 => fun _ _ => none
  | m + 1 => runB 2 5 (sm_is_plan ns (F_is_plan ns m))
theorem ok_is_plan {S : Sg} {mg : Str → Option Value} {base : Heap} (G : Gx S mg base) : ∀ m, CalF S mg base (2 + m) "is_plan" 2 (F_is_plan S.ns m)
  | 0 => by
    obtain ⟨fad, fd, hx, F⟩ := G.d_is_plan
    exact cal_zero (ps := ["plan", "deep"]) hx F (fun _ _ _ _ _ _ us hl => match us, hl with | [_, _], _ => rfl)
  | m + 1 => by
    obtain ⟨fad, fd, hx, F⟩ := G.d_is_plan
    have hself := ok_is_plan G m
    have nd := nd_is_plan
    refine cal_ok (N := N_is_plan) (k := 2 + m) (sm := sm_is_plan S.ns (F_is_plan S.ns m)) hx F sc_is_plan (fun _ _ _ _ _ _ us hl => match us, hl with | [_, _], _ => rfl) fun cdv A outer s H E hr => ?_
    exact (ss_cons (ss_if (t_w (sw_or (t_cmp (c_eq rfl (hu_room hr)) (e_var 1) e_int) (sw_or (st_not (t_val (e_call (ok_is_list G) (by omega) hr tk_body (a_cons (e_var 0) (a_cons e_int (a_cons (e_add rfl (e_mul rfl e_int (e_gint G.i_MOST_WORDS)) e_int) sa_nil)))))) (sw_or1 (st_not (t_val (e_isi .str rfl (e_ix rfl (e_var 0) e_int) G.b_str G.b_isinstance))))))) (ss_one (ss_ret e_bl)) ss_nil)
  (ss_cons (s_par2 2 3 nd (e_ix rfl (e_var 0) e_int) (se_slice rfl (e_var 0) (.some e_int) .none))
  (ss_cons (ss_if (t_cmp (c_eq rfl (hu_room hr)) (e_var 2) (e_str c5_eq)) (ss_one (ss_ret (e_cmp (c_eq rfl (hu_room hr)) (e_var 3) (se_tup sa_nil)))) ss_nil)
  (ss_cons (ss_if (t_cmp (c_in rfl (hu_room hr)) (e_var 2) (se_tup (a_cons (e_str c4_eq) (a_cons (e_str c3_eq) sa_nil)))) (ss_one (ss_ret (se_and (e_cmp (c_eq rfl (hu_room hr)) (e_len rfl G.b_len (a_cons (e_var 3) sa_nil)) e_int) (se_one (e_call (ok_is_in G) (by omega) hr tk_body (a_cons (e_ix rfl (e_var 3) e_int) (a_cons e_int (a_cons (e_sub (e_gint G.i_MOST_WORDS) e_int) sa_nil)))))))) ss_nil)
  (ss_cons (ss_if (t_cmp (c_in rfl (hu_room hr)) (e_var 2) (se_tup (a_cons (e_str c2_eq) (a_cons (e_str c1_eq) sa_nil)))) (ss_one (ss_ret (se_and (e_cmp c_gt (e_len rfl G.b_len (a_cons (e_var 3) sa_nil)) e_int) (se_one (e_all rfl G.b_all (a_cons (e_lc [("part", 4)] nd (si_any rfl (e_var 3)) (fun _ _ _ _ _ => (g_name 4 nd)) (fun _ _ _ _ _ => spt_nil) (fun _ _ _ _ _ => (e_call hself (by omega) hr tk_blk (a_cons (e_var 4) (a_cons (e_sub (e_var 1) e_int) sa_nil))))) sa_nil)))))) ss_nil)
  (ss_one (ss_ret (se_and (e_cmp (c_eq rfl (hu_room hr)) (e_var 2) (e_str c0_eq)) (se_and (e_cmp (c_eq rfl (hu_room hr)) (e_len rfl G.b_len (a_cons (e_var 3) sa_nil)) e_int) (se_one (e_call hself (by omega) hr tk_body (a_cons (e_ix rfl (e_var 3) e_int) (a_cons (e_sub (e_var 1) e_int) sa_nil)))))))))))))
/-! parts_of -/
abbrev N_parts_of : List Str := ["plan"]
theorem nd_parts_of : N_parts_of.Nodup := by decide +kernel
theorem sc_parts_of : FnScope N_parts_of ["plan"] (C8.fnScope (topS 17)) := ⟨rfl, rfl, rfl, nd_parts_of, rfl, by decide +kernel, by decide +kernel⟩
def sm_parts_of (ns : List Int) : SmS := (ssRet (smIf (smOp2 pIn (smOp2 (pIxS ns) (smV 0) (smC (.int 0))) (smTup (saCons (smC (.str c2)) (saCons (smC (.str c1)) (saCons (smC (.str c0)) saNil))))) (smSl (smV 0) (some (smC (.int 1))) none) (smTup saNil)))
def F_parts_of (ns : List Int) : Fs := runB 1 1 (sm_parts_of ns)
theorem ok_parts_of {S : Sg} {mg : Str → Option Value} {base : Heap} (G : Gx S mg base) : CalF S mg base 1 "parts_of" 1 (F_parts_of S.ns) := by
  obtain ⟨fad, fd, hx, F⟩ := G.d_parts_of
  have nd := nd_parts_of
  refine cal_ok (N := N_parts_of) (k := 0) (sm := sm_parts_of S.ns) hx F sc_parts_of (fun _ _ _ _ _ _ us hl => match us, hl with | [_], _ => rfl) fun cdv A outer s H E hr => ?_
  exact (ss_one (ss_ret (se_if (t_cmp (c_in rfl (hu_room hr)) (e_ix rfl (e_var 0) e_int) (se_tup (a_cons (e_str c2_eq) (a_cons (e_str c1_eq) (a_cons (e_str c0_eq) sa_nil))))) (se_slice rfl (e_var 0) (.some e_int) .none) (se_tup sa_nil))))
/-! leaves_in -/
abbrev N_leaves_in : List Str := ["plan", "found", "part"]
theorem nd_leaves_in : N_leaves_in.Nodup := by decide +kernel
theorem sc_leaves_in : FnScope N_leaves_in ["plan"] (C8.fnScope (topS 18)) := ⟨rfl, rfl, rfl, nd_leaves_in, rfl, by decide +kernel, by decide +kernel⟩
def sm_leaves_in (ns : List Int) (self : Fs) : SmS := (ssSeq (ssIf (smOp2 pIn (smOp2 (pIxS ns) (smV 0) (smC (.int 0))) (smTup (saCons (smC (.str c5)) (saCons (smC (.str c4)) (saCons (smC (.str c3)) saNil))))) (ssRet (smLst (saCons (smV 0) saNil))) ssNil)
  (ssSeq (ssAsg 1 (smLst saNil))
  (ssSeq (ssFor (asN 2) (smIt (smCall (F_parts_of ns) (saCons (smV 0) saNil))) (ssExpr (smMut mExtend 1 (saCons (smCall self (saCons (smV 2) saNil)) saNil))))
  (ssRetV 1))))
def F_leaves_in (ns : List Int) : Nat → Fs
  | 0 => fun _ _ => none
  | m + 1 => runB 1 3 (sm_leaves_in ns (F_leaves_in ns m))
theorem ok_leaves_in {S : Sg} {mg : Str → Option Value} {base : Heap} (G : Gx S mg base) : ∀ m, CalF S mg base (1 + m) "leaves_in" 1 (F_leaves_in S.ns m)
  | 0 => by
    obtain ⟨fad, fd, hx, F⟩ := G.d_leaves_in
    exact cal_zero (ps := ["plan"]) hx F (fun _ _ _ _ _ _ us hl => match us, hl with | [_], _ => rfl)
  | m + 1 => by
    obtain ⟨fad, fd, hx, F⟩ := G.d_leaves_in
    have hself := ok_leaves_in G m
    have nd := nd_leaves_in
    refine cal_ok (N := N_leaves_in) (k := 1 + m) (sm := sm_leaves_in S.ns (F_leaves_in S.ns m)) hx F sc_leaves_in (fun _ _ _ _ _ _ us hl => match us, hl with | [_], _ => rfl) fun cdv A outer s H E hr => ?_
    exact (ss_cons (ss_if (t_cmp (c_in rfl (hu_room hr)) (e_ix rfl (e_var 0) e_int) (se_tup (a_cons (e_str c5_eq) (a_cons (e_str c4_eq) (a_cons (e_str c3_eq) sa_nil))))) (ss_one (ss_ret (se_lst (a_cons (e_var 0) sa_nil)))) ss_nil)
  (ss_cons (s_set 1 nd (se_lst sa_nil))
  (ss_cons (s_for po_body (si_any rfl (e_call (ok_parts_of G) (by omega) hr tk_body (a_cons (e_var 0) sa_nil))) (g_name 2 nd) (ss_one (s_expr (e_extend 1 (a_cons (e_call hself (by omega) hr tk_body (a_cons (e_var 2) sa_nil)) sa_nil)))))
  (ss_one (s_retV 1)))))
/-! words_in -/
abbrev N_words_in : List Str := ["plan", "leaf"]
theorem nd_words_in : N_words_in.Nodup := by decide +kernel
theorem sc_words_in : FnScope N_words_in ["plan"] (C8.fnScope (topS 19)) := ⟨rfl, rfl, rfl, nd_words_in, rfl, by decide +kernel, by decide +kernel⟩
def sm_words_in (ns : List Int) : SmS := (ssRet (smLc [1] (asN 1) (smIt (smCall (F_leaves_in ns 45) (saCons (smV 0) saNil))) (smOp2 pNe (smV 1) (smC k_REST)) (smOp2 (pIxS ns) (smV 1) (smC (.int 1)))))
def F_words_in (ns : List Int) : Fs := runB 1 2 (sm_words_in ns)
theorem ok_words_in {S : Sg} {mg : Str → Option Value} {base : Heap} (G : Gx S mg base) : CalF S mg base 47 "words_in" 1 (F_words_in S.ns) := by
  obtain ⟨fad, fd, hx, F⟩ := G.d_words_in
  have nd := nd_words_in
  refine cal_ok (N := N_words_in) (k := 46) (sm := sm_words_in S.ns) hx F sc_words_in (fun _ _ _ _ _ _ us hl => match us, hl with | [_], _ => rfl) fun cdv A outer s H E hr => ?_
  exact (ss_one (ss_ret (e_lc [("leaf", 1)] nd (si_any rfl (e_call (ok_leaves_in G 45) (by omega) hr tk_body (a_cons (e_var 0) sa_nil))) (fun _ _ _ _ _ => (g_name 1 nd)) (fun _ _ _ _ _ => (spt_one (t_cmp (c_ne rfl (hu_room hr)) (e_var 1) (e_gdat G.k_REST)))) (fun _ _ _ _ _ => (e_ix rfl (e_var 1) e_int)))))
/-! need_plan -/
abbrev N_need_plan : List Str := ["plan"]
theorem nd_need_plan : N_need_plan.Nodup := by decide +kernel
theorem sc_need_plan : FnScope N_need_plan ["plan"] (C8.fnScope (topS 20)) := ⟨rfl, rfl, rfl, nd_need_plan, rfl, by decide +kernel, by decide +kernel⟩
def sm_need_plan (ns : List Int) : SmS := (ssSeq (ssIf (smOr (smNot (smCall (F_is_plan ns 45) (saCons (smV 0) (saCons (smC (.int 40)) saNil)))) (smOp2 pGt (smCB (pLen ns) (saCons (smCall (F_leaves_in ns 45) (saCons (smV 0) saNil)) saNil)) (smOp2 pMul (smC (.int 2)) (smC (.int 12))))) (ssRaise 1 []) ssNil)
  (ssIf (smOp2 pLt (smOp1 pLenSet (smCall (F_words_in ns) (saCons (smV 0) saNil))) (smCB (pLen ns) (saCons (smCall (F_words_in ns) (saCons (smV 0) saNil)) saNil))) (ssRaise 1 []) ssNil))
def F_need_plan (ns : List Int) : Fs := runB 1 1 (sm_need_plan ns)
theorem ok_need_plan {S : Sg} {mg : Str → Option Value} {base : Heap} (G : Gx S mg base) : CalF S mg base 48 "need_plan" 1 (F_need_plan S.ns) := by
  obtain ⟨fad, fd, hx, F⟩ := G.d_need_plan
  have nd := nd_need_plan
  refine cal_ok (N := N_need_plan) (k := 47) (sm := sm_need_plan S.ns) hx F sc_need_plan (fun _ _ _ _ _ _ us hl => match us, hl with | [_], _ => rfl) fun cdv A outer s H E hr => ?_
  exact (ss_cons (ss_if (t_w (sw_or (st_not (t_val (e_call (ok_is_plan G 45) (by omega) hr tk_body (a_cons (e_var 0) (a_cons (e_gint G.i_MOST_DEEP) sa_nil))))) (sw_or1 (t_cmp c_gt (e_len rfl G.b_len (a_cons (e_call (ok_leaves_in G 45) (by omega) hr tk_body (a_cons (e_var 0) sa_nil)) sa_nil)) (e_mul rfl e_int (e_gint G.i_MOST_WORDS)))))) (ss_one (s_raise0 G.r_BadPlan tkR_body)) ss_nil)
  (ss_one (ss_if (t_cmp c_lt (e_lenSet rfl G.b_len G.b_set (e_call (ok_words_in G) (by omega) hr tk_body (a_cons (e_var 0) sa_nil))) (e_len rfl G.b_len (a_cons (e_call (ok_words_in G) (by omega) hr tk_body (a_cons (e_var 0) sa_nil)) sa_nil))) (ss_one (s_raise0 G.r_BadPlan tkR_body)) ss_nil)))
/-! need_row -/
abbrev N_need_row : List Str := ["row", "index", "label"]
theorem nd_need_row : N_need_row.Nodup := by decide +kernel
theorem sc_need_row : FnScope N_need_row ["row"] (C8.fnScope (topS 24)) := ⟨rfl, rfl, rfl, nd_need_row, rfl, by decide +kernel, by decide +kernel⟩
def sm_need_row (ns : List Int) : SmS := (ssSeq (ssIf (smNot (smCall (F_is_list ns) (saCons (smV 0) (saCons (smC (.int 0)) (saCons (smC (.int 40)) saNil))))) (ssRaiseA 2 ["index"] (saCons (smC .non) saNil)) ssNil)
  (ssFor (asT' (asCons (asN 1) (asCons (asN 2) asNil))) (smRg enumOf (saCons (smV 0) saNil)) (ssSeq (ssIf (smOr (smNot (smCall (F_is_list ns) (saCons (smV 2) (saCons (smC (.int 2)) (saCons (smC (.int 2)) saNil))))) (smOr (smNot (smOp1 (pIs1 .str) (smOp2 (pIxS ns) (smV 2) (smC (.int 0))))) (smOp2 pNotIn (smOp2 (pIxS ns) (smV 2) (smC (.int 0))) (smC k_KINDS)))) (ssRaiseA 2 ["index"] (saCons (smV 1) saNil)) ssNil)
  (ssIf (smNot (smCall (F_is_in ns) (saCons (smOp2 (pIxS ns) (smV 2) (smC (.int 1))) (saCons (smC (.int 0)) (saCons (smIf (smOp2 pNe (smOp2 (pIxS ns) (smV 2) (smC (.int 0))) (smC (.str c6))) (smOp2 pSub (smC (.int 12)) (smC (.int 1))) (smC (.int 0))) saNil))))) (ssRaiseA 2 ["index"] (saCons (smV 1) saNil)) ssNil))))
def F_need_row (ns : List Int) : Fs := runB 1 3 (sm_need_row ns)
theorem ok_need_row {S : Sg} {mg : Str → Option Value} {base : Heap} (G : Gx S mg base) : CalF S mg base 3 "need_row" 1 (F_need_row S.ns) := by
  obtain ⟨fad, fd, hx, F⟩ := G.d_need_row
  have nd := nd_need_row
  refine cal_ok (N := N_need_row) (k := 2) (sm := sm_need_row S.ns) hx F sc_need_row (fun _ _ _ _ _ _ us hl => match us, hl with | [_], _ => rfl) fun cdv A outer s H E hr => ?_
  exact (ss_cons (ss_if (st_not (t_val (e_call (ok_is_list G) (by omega) hr tk_body (a_cons (e_var 0) (a_cons e_int (a_cons (e_gint G.i_MOST_ROW) sa_nil)))))) (ss_one (s_raiseA G.r_BadRow tkR_body hr (a_cons e_non sa_nil))) ss_nil)
  (ss_one (s_for po_body (i_enum rfl G.b_enumerate (a_cons (e_var 0) sa_nil)) (g_any rfl (g_cons (g_name 1 nd) ((g_cons (g_name 2 nd) (sg_nil (ix := []))))) (asCons_len (asCons_len asNil_len))) (ss_cons (ss_if (t_w (sw_or (st_not (t_val (e_call (ok_is_list G) (by omega) hr tk_body (a_cons (e_var 2) (a_cons e_int (a_cons e_int sa_nil)))))) (sw_or (st_not (t_val (e_isi .str rfl (e_ix rfl (e_var 2) e_int) G.b_str G.b_isinstance))) (sw_or1 (t_cmp (c_nin rfl (hu_room hr)) (e_ix rfl (e_var 2) e_int) (e_gdat G.k_KINDS)))))) (ss_one (s_raiseA G.r_BadRow tkR_body hr (a_cons (e_var 1) sa_nil))) ss_nil)
  (ss_one (ss_if (st_not (t_val (e_call (ok_is_in G) (by omega) hr tk_body (a_cons (e_ix rfl (e_var 2) e_int) (a_cons e_int (a_cons (se_if (t_cmp (c_ne rfl (hu_room hr)) (e_ix rfl (e_var 2) e_int) (e_str c6_eq)) (e_sub (e_gint G.i_MOST_WORDS) e_int) e_int) sa_nil)))))) (ss_one (s_raiseA G.r_BadRow tkR_body hr (a_cons (e_var 1) sa_nil))) ss_nil))))))
/-! need_log -/
abbrev N_need_log : List Str := ["log", "index", "entry"]
theorem nd_need_log : N_need_log.Nodup := by decide +kernel
theorem sc_need_log : FnScope N_need_log ["log"] (C8.fnScope (topS 28)) := ⟨rfl, rfl, rfl, nd_need_log, rfl, by decide +kernel, by decide +kernel⟩
def sm_need_log (ns : List Int) : SmS := (ssSeq (ssIf (smNot (smCall (F_is_list ns) (saCons (smV 0) (saCons (smC (.int 0)) (saCons (smC (.int 60)) saNil))))) (ssRaiseA 4 ["index"] (saCons (smC .non) saNil)) ssNil)
  (ssFor (asT' (asCons (asN 1) (asCons (asN 2) asNil))) (smRg enumOf (saCons (smV 0) saNil)) (ssSeq (ssIf (smOr (smNot (smCall (F_is_list ns) (saCons (smV 2) (saCons (smC (.int 2)) (saCons (smC (.int 2)) saNil))))) (smOr (smNot (smOp1 (pIs1 .str) (smOp2 (pIxS ns) (smV 2) (smC (.int 0))))) (smOp2 pNotIn (smOp2 (pIxS ns) (smV 2) (smC (.int 0))) (smC k_ENTRIES)))) (ssRaiseA 4 ["index"] (saCons (smV 1) saNil)) ssNil)
  (ssIf (smNot (smCall (F_is_in ns) (saCons (smOp2 (pIxS ns) (smV 2) (smC (.int 1))) (saCons (smC (.int 0)) (saCons (smIf (smOp2 pNe (smOp2 (pIxS ns) (smV 2) (smC (.int 0))) (smC (.str c6))) (smOp2 pSub (smC (.int 12)) (smC (.int 1))) (smC (.int 0))) saNil))))) (ssRaiseA 4 ["index"] (saCons (smV 1) saNil)) ssNil))))
def F_need_log (ns : List Int) : Fs := runB 1 3 (sm_need_log ns)
theorem ok_need_log {S : Sg} {mg : Str → Option Value} {base : Heap} (G : Gx S mg base) : CalF S mg base 3 "need_log" 1 (F_need_log S.ns) := by
  obtain ⟨fad, fd, hx, F⟩ := G.d_need_log
  have nd := nd_need_log
  refine cal_ok (N := N_need_log) (k := 2) (sm := sm_need_log S.ns) hx F sc_need_log (fun _ _ _ _ _ _ us hl => match us, hl with | [_], _ => rfl) fun cdv A outer s H E hr => ?_
  exact (ss_cons (ss_if (st_not (t_val (e_call (ok_is_list G) (by omega) hr tk_body (a_cons (e_var 0) (a_cons e_int (a_cons (e_gint G.i_MOST_LOG) sa_nil)))))) (ss_one (s_raiseA G.r_BadLog tkR_body hr (a_cons e_non sa_nil))) ss_nil)
  (ss_one (s_for po_body (i_enum rfl G.b_enumerate (a_cons (e_var 0) sa_nil)) (g_any rfl (g_cons (g_name 1 nd) ((g_cons (g_name 2 nd) (sg_nil (ix := []))))) (asCons_len (asCons_len asNil_len))) (ss_cons (ss_if (t_w (sw_or (st_not (t_val (e_call (ok_is_list G) (by omega) hr tk_body (a_cons (e_var 2) (a_cons e_int (a_cons e_int sa_nil)))))) (sw_or (st_not (t_val (e_isi .str rfl (e_ix rfl (e_var 2) e_int) G.b_str G.b_isinstance))) (sw_or1 (t_cmp (c_nin rfl (hu_room hr)) (e_ix rfl (e_var 2) e_int) (e_gdat G.k_ENTRIES)))))) (ss_one (s_raiseA G.r_BadLog tkR_body hr (a_cons (e_var 1) sa_nil))) ss_nil)
  (ss_one (ss_if (st_not (t_val (e_call (ok_is_in G) (by omega) hr tk_body (a_cons (e_ix rfl (e_var 2) e_int) (a_cons e_int (a_cons (se_if (t_cmp (c_ne rfl (hu_room hr)) (e_ix rfl (e_var 2) e_int) (e_str c6_eq)) (e_sub (e_gint G.i_MOST_WORDS) e_int) e_int) sa_nil)))))) (ss_one (s_raiseA G.r_BadLog tkR_body hr (a_cons (e_var 1) sa_nil))) ss_nil))))))
/-! need_paper -/
abbrev N_need_paper : List Str := ["paper", "index", "line", "at"]
theorem nd_need_paper : N_need_paper.Nodup := by decide +kernel
theorem sc_need_paper : FnScope N_need_paper ["paper"] (C8.fnScope (topS 32)) := ⟨rfl, rfl, rfl, nd_need_paper, rfl, by decide +kernel, by decide +kernel⟩
def sm_need_paper (ns : List Int) : SmS := (ssSeq (ssIf (smNot (smCall (F_is_list ns) (saCons (smV 0) (saCons (smC (.int 0)) (saCons (smC (.int 1000)) saNil))))) (ssRaiseA 3 ["index"] (saCons (smC .non) saNil)) ssNil)
  (ssFor (asT' (asCons (asN 1) (asCons (asN 2) asNil))) (smRg enumOf (saCons (smV 0) saNil)) (ssSeq (ssIf (smOr (smNot (smCall (F_is_list ns) (saCons (smV 2) (saCons (smC (.int 2)) (saCons (smC (.int 2)) saNil))))) (smOr (smNot (smCall (F_is_list ns) (saCons (smOp2 (pIxS ns) (smV 2) (smC (.int 0))) (saCons (smC (.int 0)) (saCons (smC (.int 40)) saNil))))) (smNot (smOp1 (pIs1 .str) (smOp2 (pIxS ns) (smV 2) (smC (.int 1))))))) (ssRaiseA 3 ["index"] (saCons (smV 1) saNil)) ssNil)
  (ssIf (smOr (smOp2 pNotIn (smOp2 (pIxS ns) (smV 2) (smC (.int 1))) (smC k_RULES)) (smNot (smCB pAll (saCons (smLc [3] (asN 3) (smIt (smOp2 (pIxS ns) (smV 2) (smC (.int 0)))) (smC (.bl true)) (smCall (F_is_in ns) (saCons (smV 3) (saCons (smC (.int 0)) (saCons (smOp2 pSub (smOp2 pMul (smC (.int 2)) (smC (.int 12))) (smC (.int 1))) saNil))))) saNil)))) (ssRaiseA 3 ["index"] (saCons (smV 1) saNil)) ssNil))))
def F_need_paper (ns : List Int) : Fs := runB 1 4 (sm_need_paper ns)
theorem ok_need_paper {S : Sg} {mg : Str → Option Value} {base : Heap} (G : Gx S mg base) : CalF S mg base 3 "need_paper" 1 (F_need_paper S.ns) := by
  obtain ⟨fad, fd, hx, F⟩ := G.d_need_paper
  have nd := nd_need_paper
  refine cal_ok (N := N_need_paper) (k := 2) (sm := sm_need_paper S.ns) hx F sc_need_paper (fun _ _ _ _ _ _ us hl => match us, hl with | [_], _ => rfl) fun cdv A outer s H E hr => ?_
  exact (ss_cons (ss_if (st_not (t_val (e_call (ok_is_list G) (by omega) hr tk_body (a_cons (e_var 0) (a_cons e_int (a_cons (e_gint G.i_MOST_STEPS) sa_nil)))))) (ss_one (s_raiseA G.r_BadPaper tkR_body hr (a_cons e_non sa_nil))) ss_nil)
  (ss_one (s_for po_body (i_enum rfl G.b_enumerate (a_cons (e_var 0) sa_nil)) (g_any rfl (g_cons (g_name 1 nd) ((g_cons (g_name 2 nd) (sg_nil (ix := []))))) (asCons_len (asCons_len asNil_len))) (ss_cons (ss_if (t_w (sw_or (st_not (t_val (e_call (ok_is_list G) (by omega) hr tk_body (a_cons (e_var 2) (a_cons e_int (a_cons e_int sa_nil)))))) (sw_or (st_not (t_val (e_call (ok_is_list G) (by omega) hr tk_body (a_cons (e_ix rfl (e_var 2) e_int) (a_cons e_int (a_cons (e_gint G.i_MOST_DEEP) sa_nil)))))) (sw_or1 (st_not (t_val (e_isi .str rfl (e_ix rfl (e_var 2) e_int) G.b_str G.b_isinstance))))))) (ss_one (s_raiseA G.r_BadPaper tkR_body hr (a_cons (e_var 1) sa_nil))) ss_nil)
  (ss_one (ss_if (t_w (sw_or (t_cmp (c_nin rfl (hu_room hr)) (e_ix rfl (e_var 2) e_int) (e_gdat G.k_RULES)) (sw_or1 (st_not (t_val (e_all rfl G.b_all (a_cons (e_lc [("at", 3)] nd (si_any rfl (e_ix rfl (e_var 2) e_int)) (fun _ _ _ _ _ => (g_name 3 nd)) (fun _ _ _ _ _ => spt_nil) (fun _ _ _ _ _ => (e_call (ok_is_in G) (by omega) hr tk_blk (a_cons (e_var 3) (a_cons e_int (a_cons (e_sub (e_mul rfl e_int (e_gint G.i_MOST_WORDS)) e_int) sa_nil)))))) sa_nil))))))) (ss_one (s_raiseA G.r_BadPaper tkR_body hr (a_cons (e_var 1) sa_nil))) ss_nil))))))
/-! need_text -/
abbrev N_need_text : List Str := ["text"]
theorem nd_need_text : N_need_text.Nodup := by decide +kernel
theorem sc_need_text : FnScope N_need_text ["text"] (C8.fnScope (topS 36)) := ⟨rfl, rfl, rfl, nd_need_text, rfl, by decide +kernel, by decide +kernel⟩
def sm_need_text (ns : List Int) : SmS := (ssIf (smNot (smOp1 (pIs1 .str) (smV 0))) (ssRaise 5 []) ssNil)
def F_need_text (ns : List Int) : Fs := runB 1 1 (sm_need_text ns)
theorem ok_need_text {S : Sg} {mg : Str → Option Value} {base : Heap} (G : Gx S mg base) : CalF S mg base 1 "need_text" 1 (F_need_text S.ns) := by
  obtain ⟨fad, fd, hx, F⟩ := G.d_need_text
  have nd := nd_need_text
  refine cal_ok (N := N_need_text) (k := 0) (sm := sm_need_text S.ns) hx F sc_need_text (fun _ _ _ _ _ _ us hl => match us, hl with | [_], _ => rfl) fun cdv A outer s H E hr => ?_
  exact (ss_one (ss_if (st_not (t_val (e_isi .str rfl (e_var 0) G.b_str G.b_isinstance))) (ss_one (s_raise0 G.r_NotText tkR_body)) ss_nil))
/-! words_of -/
abbrev N_words_of : List Str := ["text", "word"]
theorem nd_words_of : N_words_of.Nodup := by decide +kernel
theorem sc_words_of : FnScope N_words_of ["text"] (C8.fnScope (topS 37)) := ⟨rfl, rfl, rfl, nd_words_of, rfl, by decide +kernel, by decide +kernel⟩
def sm_words_of (ns : List Int) : SmS := (ssRet (smLc [1] (asN 1) (smIt (smM1 pSplit (smV 0) (smC (.str c7)))) (smOp2 pNe (smV 1) (smC (.str c8))) (smV 1)))
def F_words_of (ns : List Int) : Fs := runB 1 2 (sm_words_of ns)
theorem ok_words_of {S : Sg} {mg : Str → Option Value} {base : Heap} (G : Gx S mg base) : CalF S mg base 1 "words_of" 1 (F_words_of S.ns) := by
  obtain ⟨fad, fd, hx, F⟩ := G.d_words_of
  have nd := nd_words_of
  refine cal_ok (N := N_words_of) (k := 0) (sm := sm_words_of S.ns) hx F sc_words_of (fun _ _ _ _ _ _ us hl => match us, hl with | [_], _ => rfl) fun cdv A outer s H E hr => ?_
  exact (ss_one (ss_ret (e_lc [("word", 1)] nd (si_any rfl (e_split (e_var 0) (e_str c7_eq))) (fun _ _ _ _ _ => (g_name 1 nd)) (fun _ _ _ _ _ => (spt_one (t_cmp (c_ne rfl (hu_room hr)) (e_var 1) (e_str c8_eq)))) (fun _ _ _ _ _ => (e_var 1)))))
/-! number_of -/
abbrev N_number_of : List Str := ["word", "most", "figure"]
theorem nd_number_of : N_number_of.Nodup := by decide +kernel
theorem sc_number_of : FnScope N_number_of ["word", "most"] (C8.fnScope (topS 38)) := ⟨rfl, rfl, rfl, nd_number_of, rfl, by decide +kernel, by decide +kernel⟩
def sm_number_of (ns : List Int) : SmS := (ssSeq (ssIf (smOr (smOp2 pEq (smV 0) (smC (.str c8))) (smOr (smOp2 pGt (smCB (pLen ns) (saCons (smV 0) saNil)) (smC (.int 2))) (smNot (smCB pAll (saCons (smLc [2] (asN 2) (smItS (smV 0)) (smC (.bl true)) (smOp2 pIn (smV 2) (smC (.str c9)))) saNil))))) (ssRet (smC .non)) ssNil)
  (ssRet (smIf (smAnd (smOp2 pEq (smCB pStr (saCons (smCB pInt (saCons (smV 0) saNil)) saNil)) (smV 0)) (smOp2 pLe (smCB pInt (saCons (smV 0) saNil)) (smV 1))) (smCB pInt (saCons (smV 0) saNil)) (smC .non))))
def F_number_of (ns : List Int) : Fs := runB 2 3 (sm_number_of ns)
theorem ok_number_of {S : Sg} {mg : Str → Option Value} {base : Heap} (G : Gx S mg base) : CalF S mg base 1 "number_of" 2 (F_number_of S.ns) := by
  obtain ⟨fad, fd, hx, F⟩ := G.d_number_of
  have nd := nd_number_of
  refine cal_ok (N := N_number_of) (k := 0) (sm := sm_number_of S.ns) hx F sc_number_of (fun _ _ _ _ _ _ us hl => match us, hl with | [_, _], _ => rfl) fun cdv A outer s H E hr => ?_
  exact (ss_cons (ss_if (t_w (sw_or (t_cmp (c_eq rfl (hu_room hr)) (e_var 0) (e_str c8_eq)) (sw_or (t_cmp c_gt (e_len rfl G.b_len (a_cons (e_var 0) sa_nil)) e_int) (sw_or1 (st_not (t_val (e_all rfl G.b_all (a_cons (e_lc [("figure", 2)] nd (si_str (e_var 0)) (fun _ _ _ _ _ => (g_name 2 nd)) (fun _ _ _ _ _ => spt_nil) (fun _ _ _ _ _ => (e_cmp (c_in rfl (hu_room hr)) (e_var 2) (e_gstr G.s_FIGURES rfl)))) sa_nil)))))))) (ss_one (ss_ret e_non)) ss_nil)
  (ss_one (ss_ret (se_if (t_w (sw_and (t_cmp (c_eq rfl (hu_room hr)) (e_strc G.b_str (a_cons (e_intc G.b_int (a_cons (e_var 0) sa_nil)) sa_nil)) (e_var 0)) (sw_and1 (t_cmp c_le (e_intc G.b_int (a_cons (e_var 0) sa_nil)) (e_var 1))))) (e_intc G.b_int (a_cons (e_var 0) sa_nil)) e_non))))
/-! plan_words -/
abbrev N_plan_words : List Str := ["plan", "kind", "found", "part"]
theorem nd_plan_words : N_plan_words.Nodup := by decide +kernel
theorem sc_plan_words : FnScope N_plan_words ["plan"] (C8.fnScope (topS 39)) := ⟨rfl, rfl, rfl, nd_plan_words, rfl, by decide +kernel, by decide +kernel⟩
def sm_plan_words (ns : List Int) (self : Fs) : SmS := (ssSeq (ssAsg 1 (smOp2 (pIxS ns) (smV 0) (smC (.int 0))))
  (ssSeq (ssIf (smOp2 pEq (smV 1) (smC (.str c5))) (ssRet (smLst (saCons (smC (.str c5)) saNil))) ssNil)
  (ssSeq (ssIf (smOp2 pIn (smV 1) (smTup (saCons (smC (.str c4)) (saCons (smC (.str c3)) saNil)))) (ssRet (smLst (saCons (smOp2 pAdd (smOp2 (pIxS ns) (smC (.str c10)) (smOp2 (pIxS ns) (smV 0) (smC (.int 1)))) (smIf (smOp2 pEq (smV 1) (smC (.str c3))) (smC (.str c11)) (smC (.str c8)))) saNil))) ssNil)
  (ssSeq (ssAsg 2 (smLst (saCons (smOp2 pAdd (smV 1) (smIf (smOp2 pIn (smV 1) (smTup (saCons (smC (.str c2)) (saCons (smC (.str c1)) saNil)))) (smCB pStr (saCons (smOp2 pSub (smCB (pLen ns) (saCons (smV 0) saNil)) (smC (.int 1))) saNil)) (smC (.str c8)))) saNil)))
  (ssSeq (ssFor (asN 3) (smIt (smSl (smV 0) (some (smC (.int 1))) none)) (ssExpr (smMut mExtend 2 (saCons (smCall self (saCons (smV 3) saNil)) saNil))))
  (ssRetV 2))))))
def F_plan_words (ns : List Int) : Nat → Fs
  | 0 => fun _ _ => none
  | m + 1 => runB 1 4 (sm_plan_words ns (F_plan_words ns m))
theorem ok_plan_words {S : Sg} {mg : Str → Option Value} {base : Heap} (G : Gx S mg base) : ∀ m, CalF S mg base (0 + m) "plan_words" 1 (F_plan_words S.ns m)
  | 0 => by
    obtain ⟨fad, fd, hx, F⟩ := G.d_plan_words
    exact cal_zero (ps := ["plan"]) hx F (fun _ _ _ _ _ _ us hl => match us, hl with | [_], _ => rfl)
  | m + 1 => by
    obtain ⟨fad, fd, hx, F⟩ := G.d_plan_words
    have hself := ok_plan_words G m
    have nd := nd_plan_words
    refine cal_ok (N := N_plan_words) (k := 0 + m) (sm := sm_plan_words S.ns (F_plan_words S.ns m)) hx F sc_plan_words (fun _ _ _ _ _ _ us hl => match us, hl with | [_], _ => rfl) fun cdv A outer s H E hr => ?_
    exact (ss_cons (s_set 1 nd (e_ix rfl (e_var 0) e_int))
  (ss_cons (ss_if (t_cmp (c_eq rfl (hu_room hr)) (e_var 1) (e_str c5_eq)) (ss_one (ss_ret (se_lst (a_cons (e_str c5_eq) sa_nil)))) ss_nil)
  (ss_cons (ss_if (t_cmp (c_in rfl (hu_room hr)) (e_var 1) (se_tup (a_cons (e_str c4_eq) (a_cons (e_str c3_eq) sa_nil)))) (ss_one (ss_ret (se_lst (a_cons (e_add rfl (e_ix rfl (e_gstr G.s_WORDS rfl) (e_ix rfl (e_var 0) e_int)) (se_if (t_cmp (c_eq rfl (hu_room hr)) (e_var 1) (e_str c3_eq)) (e_str c11_eq) (e_str c8_eq))) sa_nil)))) ss_nil)
  (ss_cons (s_set 2 nd (se_lst (a_cons (e_add rfl (e_var 1) (se_if (t_cmp (c_in rfl (hu_room hr)) (e_var 1) (se_tup (a_cons (e_str c2_eq) (a_cons (e_str c1_eq) sa_nil)))) (e_strc G.b_str (a_cons (e_sub (e_len rfl G.b_len (a_cons (e_var 0) sa_nil)) e_int) sa_nil)) (e_str c8_eq))) sa_nil)))
  (ss_cons (s_for po_body (si_any rfl (se_slice rfl (e_var 0) (.some e_int) .none)) (g_name 3 nd) (ss_one (s_expr (e_extend 2 (a_cons (e_call hself (by omega) hr tk_body (a_cons (e_var 3) sa_nil)) sa_nil)))))
  (ss_one (s_retV 2)))))))
/-! write_plan -/
abbrev N_write_plan : List Str := ["plan"]
theorem nd_write_plan : N_write_plan.Nodup := by decide +kernel
theorem sc_write_plan : FnScope N_write_plan ["plan"] (C8.fnScope (topS 40)) := ⟨rfl, rfl, rfl, nd_write_plan, rfl, by decide +kernel, by decide +kernel⟩
def sm_write_plan (ns : List Int) : SmS := (ssSeq (ssExpr (smCall (F_need_plan ns) (saCons (smV 0) saNil)))
  (ssRet (smM1 pJoin (smC (.str c7)) (smCall (F_plan_words ns 45) (saCons (smV 0) saNil)))))
def F_write_plan (ns : List Int) : Fs := runB 1 1 (sm_write_plan ns)
theorem ok_write_plan {S : Sg} {mg : Str → Option Value} {base : Heap} (G : Gx S mg base) : CalF S mg base 49 "write_plan" 1 (F_write_plan S.ns) := by
  obtain ⟨fad, fd, hx, F⟩ := G.d_write_plan
  have nd := nd_write_plan
  refine cal_ok (N := N_write_plan) (k := 48) (sm := sm_write_plan S.ns) hx F sc_write_plan (fun _ _ _ _ _ _ us hl => match us, hl with | [_], _ => rfl) fun cdv A outer s H E hr => ?_
  exact (ss_cons (s_expr (e_call (ok_need_plan G) (by omega) hr tk_body (a_cons (e_var 0) sa_nil)))
  (ss_one (ss_ret (e_join rfl (e_str c7_eq) (e_call (ok_plan_words G 45) (by omega) hr tk_body (a_cons (e_var 0) sa_nil))))))
/-! head_of -/
abbrev N_head_of : List Str := ["word", "kind", "many"]
theorem nd_head_of : N_head_of.Nodup := by decide +kernel
theorem sc_head_of : FnScope N_head_of ["word"] (C8.fnScope (topS 41)) := ⟨rfl, rfl, rfl, nd_head_of, rfl, by decide +kernel, by decide +kernel⟩
def sm_head_of (ns : List Int) : SmS := (ssSeq (ssIf (smOp2 pIn (smV 0) (smTup (saCons (smC (.str c5)) (saCons (smC (.str c0)) saNil)))) (ssRet (smTup (saCons (smTup (saCons (smV 0) saNil)) (saCons (smCB pInt (saCons (smOp2 pEq (smV 0) (smC (.str c0))) saNil)) saNil)))) ssNil)
  (ssSeq (ssIf (smAnd (smOp2 pIn (smSl (smV 0) none (some (smC (.int 1)))) (smC (.str c10))) (smOp2 pIn (smSl (smV 0) (some (smC (.int 1))) none) (smTup (saCons (smC (.str c8)) (saCons (smC (.str c11)) saNil))))) (ssRet (smTup (saCons (smTup (saCons (smIf (smOp2 pEq (smSl (smV 0) (some (smC (.int 1))) none) (smC (.str c11))) (smC (.str c3)) (smC (.str c4))) (saCons (smM1 pIndexS (smC (.str c10)) (smOp2 (pIxS ns) (smV 0) (smC (.int 0)))) saNil))) (saCons (smC (.int 0)) saNil)))) ssNil)
  (ssSeq (ssFor (asN 1) (smIt (smTup (saCons (smC (.str c2)) (saCons (smC (.str c1)) saNil)))) (ssSeq (ssAsg 2 (smIf (smOp2 pEq (smSl (smV 0) none (some (smCB (pLen ns) (saCons (smV 1) saNil)))) (smV 1)) (smCall (F_number_of ns) (saCons (smSl (smV 0) (some (smCB (pLen ns) (saCons (smV 1) saNil))) none) (saCons (smOp2 pMul (smC (.int 2)) (smC (.int 12))) saNil))) (smC .non)))
  (ssIf (smAnd (smOp2 pIsN (smV 2) (smC .non)) (smOp2 pGt (smV 2) (smC (.int 1)))) (ssRet (smTup (saCons (smTup (saCons (smV 1) saNil)) (saCons (smV 2) saNil)))) ssNil)))
  (ssRet (smC .non)))))
def F_head_of (ns : List Int) : Fs := runB 1 3 (sm_head_of ns)
theorem ok_head_of {S : Sg} {mg : Str → Option Value} {base : Heap} (G : Gx S mg base) : CalF S mg base 2 "head_of" 1 (F_head_of S.ns) := by
  obtain ⟨fad, fd, hx, F⟩ := G.d_head_of
  have nd := nd_head_of
  refine cal_ok (N := N_head_of) (k := 1) (sm := sm_head_of S.ns) hx F sc_head_of (fun _ _ _ _ _ _ us hl => match us, hl with | [_], _ => rfl) fun cdv A outer s H E hr => ?_
  exact (ss_cons (ss_if (t_cmp (c_in rfl (hu_room hr)) (e_var 0) (se_tup (a_cons (e_str c5_eq) (a_cons (e_str c0_eq) sa_nil)))) (ss_one (ss_ret (se_tup (a_cons (se_tup (a_cons (e_var 0) sa_nil)) (a_cons (e_intc G.b_int (a_cons (e_cmp (c_eq rfl (hu_room hr)) (e_var 0) (e_str c0_eq)) sa_nil)) sa_nil))))) ss_nil)
  (ss_cons (ss_if (t_w (sw_and (t_cmp (c_in rfl (hu_room hr)) (se_slice rfl (e_var 0) .none (.some e_int)) (e_gstr G.s_WORDS rfl)) (sw_and1 (t_cmp (c_in rfl (hu_room hr)) (se_slice rfl (e_var 0) (.some e_int) .none) (se_tup (a_cons (e_str c8_eq) (a_cons (e_str c11_eq) sa_nil))))))) (ss_one (ss_ret (se_tup (a_cons (se_tup (a_cons (se_if (t_cmp (c_eq rfl (hu_room hr)) (se_slice rfl (e_var 0) (.some e_int) .none) (e_str c11_eq)) (e_str c3_eq) (e_str c4_eq)) (a_cons (e_indexS (e_gstr G.s_WORDS rfl) (e_ix rfl (e_var 0) e_int)) sa_nil))) (a_cons e_int sa_nil))))) ss_nil)
  (ss_cons (s_for po_body (si_any rfl (se_tup (a_cons (e_str c2_eq) (a_cons (e_str c1_eq) sa_nil)))) (g_name 1 nd) (ss_cons (s_set 2 nd (se_if (t_cmp (c_eq rfl (hu_room hr)) (se_slice rfl (e_var 0) .none (.some (e_len rfl G.b_len (a_cons (e_var 1) sa_nil)))) (e_var 1)) (e_call (ok_number_of G) (by omega) hr tk_body (a_cons (se_slice rfl (e_var 0) (.some (e_len rfl G.b_len (a_cons (e_var 1) sa_nil))) .none) (a_cons (e_mul rfl e_int (e_gint G.i_MOST_WORDS)) sa_nil))) e_non))
  (ss_one (ss_if (t_w (sw_and (t_cmp c_isn (e_var 2) e_non) (sw_and1 (t_cmp c_gt (e_var 2) e_int)))) (ss_one (ss_ret (se_tup (a_cons (se_tup (a_cons (e_var 1) sa_nil)) (a_cons (e_var 2) sa_nil))))) ss_nil))))
  (ss_one (ss_ret e_non)))))
/-! plan_at -/
abbrev N_plan_at : List Str := ["words", "at", "deep", "leaves", "head", "found", "many", "place", "turn", "part", "leaf"]
theorem nd_plan_at : N_plan_at.Nodup := by decide +kernel
theorem sc_plan_at : FnScope N_plan_at ["words", "at", "deep", "leaves"] (C8.fnScope (topS 42)) := ⟨rfl, rfl, rfl, nd_plan_at, rfl, by decide +kernel, by decide +kernel⟩
def sm_plan_at (ns : List Int) (self : Fs) : SmS := (ssSeq (ssAsg 4 (smIf (smAnd (smOp2 pLt (smV 1) (smCB (pLen ns) (saCons (smV 0) saNil))) (smOp2 pGt (smV 2) (smC (.int 0)))) (smCall (F_head_of ns) (saCons (smOp2 (pIxS ns) (smV 0) (smV 1)) saNil)) (smC .non)))
  (ssSeq (ssIf (smOr (smOp2 pIs (smV 4) (smC .non)) (smAnd (smOp2 pEq (smOp2 (pIxS ns) (smV 4) (smC (.int 1))) (smC (.int 0))) (smOp2 pEq (smCB (pLen ns) (saCons (smV 3) saNil)) (smOp2 pMul (smC (.int 2)) (smC (.int 12)))))) (ssRaiseA 6 ["line", "word"] (saCons (smC (.int 1)) (saCons (smOp2 pAdd (smV 1) (smC (.int 1))) saNil))) ssNil)
  (ssSeq (ssAsgT (asT' (asCons (asN 5) (asCons (asN 6) asNil))) (smV 4))
  (ssSeq (ssIf (smOp2 pEq (smV 6) (smC (.int 0))) (ssSeq (ssIf (smAnd (smOp2 pNe (smV 5) (smTup (saCons (smC (.str c5)) saNil))) (smOp2 pIn (smOp2 (pIxS ns) (smV 5) (smC (.int 1))) (smLc [10] (asN 10) (smIt (smV 3)) (smOp2 pNe (smV 10) (smTup (saCons (smC (.str c5)) saNil))) (smOp2 (pIxS ns) (smV 10) (smC (.int 1)))))) (ssRaiseA 6 ["line", "word"] (saCons (smC (.int 1)) (saCons (smOp2 pAdd (smV 1) (smC (.int 1))) saNil))) ssNil)
  (ssRet (smTup (saCons (smV 5) (saCons (smOp2 pAdd (smV 1) (smC (.int 1))) (saCons (smLst (saStar (smV 3) (saCons (smV 5) saNil))) saNil)))))) ssNil)
  (ssSeq (ssAsg 7 (smOp2 pAdd (smV 1) (smC (.int 1))))
  (ssSeq (ssFor (asN 8) (smRg rg1 (saCons (smV 6) saNil)) (ssSeq (ssAsgT (asT' (asCons (asN 9) (asCons (asN 7) (asCons (asN 3) asNil)))) (smCall self (saCons (smV 0) (saCons (smV 7) (saCons (smOp2 pSub (smV 2) (smC (.int 1))) (saCons (smV 3) saNil))))))
  (ssAsg 5 (smTup (saStar (smV 5) (saCons (smV 9) saNil))))))
  (ssRet (smTup (saCons (smV 5) (saCons (smV 7) (saCons (smV 3) saNil)))))))))))
def F_plan_at (ns : List Int) : Nat → Fs
  | 0 => fun _ _ => none
  | m + 1 => runB 4 11 (sm_plan_at ns (F_plan_at ns m))
theorem ok_plan_at {S : Sg} {mg : Str → Option Value} {base : Heap} (G : Gx S mg base) : ∀ m, CalF S mg base (2 + m) "plan_at" 4 (F_plan_at S.ns m)
  | 0 => by
    obtain ⟨fad, fd, hx, F⟩ := G.d_plan_at
    exact cal_zero (ps := ["words", "at", "deep", "leaves"]) hx F (fun _ _ _ _ _ _ us hl => match us, hl with | [_, _, _, _], _ => rfl)
  | m + 1 => by
    obtain ⟨fad, fd, hx, F⟩ := G.d_plan_at
    have hself := ok_plan_at G m
    have nd := nd_plan_at
    refine cal_ok (N := N_plan_at) (k := 2 + m) (sm := sm_plan_at S.ns (F_plan_at S.ns m)) hx F sc_plan_at (fun _ _ _ _ _ _ us hl => match us, hl with | [_, _, _, _], _ => rfl) fun cdv A outer s H E hr => ?_
    exact (ss_cons (s_set 4 nd (se_if (t_w (sw_and (t_cmp c_lt (e_var 1) (e_len rfl G.b_len (a_cons (e_var 0) sa_nil))) (sw_and1 (t_cmp c_gt (e_var 2) e_int)))) (e_call (ok_head_of G) (by omega) hr tk_body (a_cons (e_ix rfl (e_var 0) (e_var 1)) sa_nil)) e_non))
  (ss_cons (ss_if (t_w (sw_or (t_cmp c_is (e_var 4) e_non) (sw_or1 (t_w (sw_and (t_cmp (c_eq rfl (hu_room hr)) (e_ix rfl (e_var 4) e_int) e_int) (sw_and1 (t_cmp (c_eq rfl (hu_room hr)) (e_len rfl G.b_len (a_cons (e_var 3) sa_nil)) (e_mul rfl e_int (e_gint G.i_MOST_WORDS))))))))) (ss_one (s_raiseA G.r_InvalidText tkR_body hr (a_cons e_int (a_cons (e_add rfl (e_var 1) e_int) sa_nil)))) ss_nil)
  (ss_cons (s_asgT (e_var 4) (g_any rfl (g_cons (g_name 5 nd) ((g_cons (g_name 6 nd) (sg_nil (ix := []))))) (asCons_len (asCons_len asNil_len))))
  (ss_cons (ss_if (t_cmp (c_eq rfl (hu_room hr)) (e_var 6) e_int) (ss_cons (ss_if (t_w (sw_and (t_cmp (c_ne rfl (hu_room hr)) (e_var 5) (se_tup (a_cons (e_str c5_eq) sa_nil))) (sw_and1 (t_cmp (c_in rfl (hu_room hr)) (e_ix rfl (e_var 5) e_int) (e_lc [("leaf", 10)] nd (si_any rfl (e_var 3)) (fun _ _ _ _ _ => (g_name 10 nd)) (fun _ _ _ _ _ => (spt_one (t_cmp (c_ne rfl (hu_room hr)) (e_var 10) (se_tup (a_cons (e_str c5_eq) sa_nil))))) (fun _ _ _ _ _ => (e_ix rfl (e_var 10) e_int))))))) (ss_one (s_raiseA G.r_InvalidText tkR_body hr (a_cons e_int (a_cons (e_add rfl (e_var 1) e_int) sa_nil)))) ss_nil)
  (ss_one (ss_ret (se_tup (a_cons (e_var 5) (a_cons (e_add rfl (e_var 1) e_int) (a_cons (se_lst (a_star rfl (e_var 3) (a_cons (e_var 5) sa_nil))) sa_nil))))))) ss_nil)
  (ss_cons (s_set 7 nd (e_add rfl (e_var 1) e_int))
  (ss_cons (s_for po_body (i_range1 G.b_range (a_cons (e_var 6) sa_nil)) (g_name 8 nd) (ss_cons (s_asgT (e_call hself (by omega) hr tk_body (a_cons (e_var 0) (a_cons (e_var 7) (a_cons (e_sub (e_var 2) e_int) (a_cons (e_var 3) sa_nil))))) (g_any rfl (g_cons (g_name 9 nd) ((g_cons (g_name 7 nd) ((g_cons (g_name 3 nd) (sg_nil (ix := []))))))) (asCons_len (asCons_len (asCons_len asNil_len)))))
  (ss_one (s_set 5 nd (se_tup (a_star rfl (e_var 5) (a_cons (e_var 9) sa_nil)))))))
  (ss_one (ss_ret (se_tup (a_cons (e_var 5) (a_cons (e_var 7) (a_cons (e_var 3) sa_nil))))))))))))
/-! read_plan -/
abbrev N_read_plan : List Str := ["text", "words", "place", "leaves", "plan"]
theorem nd_read_plan : N_read_plan.Nodup := by decide +kernel
theorem sc_read_plan : FnScope N_read_plan ["text"] (C8.fnScope (topS 43)) := ⟨rfl, rfl, rfl, nd_read_plan, rfl, by decide +kernel, by decide +kernel⟩
def sm_read_plan (ns : List Int) : SmS := (ssSeq (ssExpr (smCall (F_need_text ns) (saCons (smV 0) saNil)))
  (ssSeq (ssAsg 1 (smCall (F_words_of ns) (saCons (smV 0) saNil)))
  (ssSeq (ssAsgT (asT' (asCons (asN 4) (asCons (asN 2) (asCons (asN 3) asNil)))) (smCall (F_plan_at ns 45) (saCons (smV 1) (saCons (smC (.int 0)) (saCons (smC (.int 40)) (saCons (smLst saNil) saNil))))))
  (ssSeq (ssIf (smOp2 pLt (smV 2) (smCB (pLen ns) (saCons (smV 1) saNil))) (ssRaiseA 6 ["line", "word"] (saCons (smC (.int 1)) (saCons (smOp2 pAdd (smV 2) (smC (.int 1))) saNil))) ssNil)
  (ssRetV 4)))))
def F_read_plan (ns : List Int) : Fs := runB 1 5 (sm_read_plan ns)
theorem ok_read_plan {S : Sg} {mg : Str → Option Value} {base : Heap} (G : Gx S mg base) : CalF S mg base 48 "read_plan" 1 (F_read_plan S.ns) := by
  obtain ⟨fad, fd, hx, F⟩ := G.d_read_plan
  have nd := nd_read_plan
  refine cal_ok (N := N_read_plan) (k := 47) (sm := sm_read_plan S.ns) hx F sc_read_plan (fun _ _ _ _ _ _ us hl => match us, hl with | [_], _ => rfl) fun cdv A outer s H E hr => ?_
  exact (ss_cons (s_expr (e_call (ok_need_text G) (by omega) hr tk_body (a_cons (e_var 0) sa_nil)))
  (ss_cons (s_set 1 nd (e_call (ok_words_of G) (by omega) hr tk_body (a_cons (e_var 0) sa_nil)))
  (ss_cons (s_asgT (e_call (ok_plan_at G 45) (by omega) hr tk_body (a_cons (e_var 1) (a_cons e_int (a_cons (e_gint G.i_MOST_DEEP) (a_cons (se_lst sa_nil) sa_nil))))) (g_any rfl (g_cons (g_name 4 nd) ((g_cons (g_name 2 nd) ((g_cons (g_name 3 nd) (sg_nil (ix := []))))))) (asCons_len (asCons_len (asCons_len asNil_len)))))
  (ss_cons (ss_if (t_cmp c_lt (e_var 2) (e_len rfl G.b_len (a_cons (e_var 1) sa_nil))) (ss_one (s_raiseA G.r_InvalidText tkR_body hr (a_cons e_int (a_cons (e_add rfl (e_var 2) e_int) sa_nil)))) ss_nil)
  (ss_one (s_retV 4))))))
/-! write_row -/
abbrev N_write_row : List Str := ["row", "heads", "kind", "word"]
theorem nd_write_row : N_write_row.Nodup := by decide +kernel
theorem sc_write_row : FnScope N_write_row ["row"] (C8.fnScope (topS 44)) := ⟨rfl, rfl, rfl, nd_write_row, rfl, by decide +kernel, by decide +kernel⟩
def sm_write_row (ns : List Int) : SmS := (ssSeq (ssExpr (smCall (F_need_row ns) (saCons (smV 0) saNil)))
  (ssSeq (ssAsg 1 smNo)
  (ssRet (smM1 pJoin (smC (.str c7)) (smLc [2, 3] (asT' (asCons (asN 2) (asCons (asN 3) asNil))) (smIt (smV 0)) (smC (.bl true)) (smIf (smOp2 pEq (smV 2) (smC (.str c6))) (smC (.str c6)) (smOp2 pAdd (smOp2 (pIxS ns) (smV 1) (smV 2)) (smOp2 (pIxS ns) (smC (.str c10)) (smV 3)))))))))
def F_write_row (ns : List Int) : Fs := runB 1 4 (sm_write_row ns)
theorem ok_write_row {S : Sg} {mg : Str → Option Value} {base : Heap} (G : Gx S mg base) : CalF S mg base 4 "write_row" 1 (F_write_row S.ns) := by
  obtain ⟨fad, fd, hx, F⟩ := G.d_write_row
  have nd := nd_write_row
  refine cal_ok (N := N_write_row) (k := 3) (sm := sm_write_row S.ns) hx F sc_write_row (fun _ _ _ _ _ _ us hl => match us, hl with | [_], _ => rfl) fun cdv A outer s H E hr => ?_
  exact (ss_cons (s_expr (e_call (ok_need_row G) (by omega) hr tk_body (a_cons (e_var 0) sa_nil)))
  (ss_cons (s_set 1 nd se_no)
  (ss_one (ss_ret (e_join rfl (e_str c7_eq) (e_lc [("kind", 2), ("word", 3)] nd (si_any rfl (e_var 0)) (fun _ _ _ _ _ => (g_any rfl (g_cons (g_name 2 nd) ((g_cons (g_name 3 nd) (sg_nil (ix := []))))) (asCons_len (asCons_len asNil_len)))) (fun _ _ _ _ _ => spt_nil) (fun _ _ _ _ _ => (se_if (t_cmp (c_eq rfl (hu_room hr)) (e_var 2) (e_str c6_eq)) (e_str c6_eq) (e_add rfl (e_ix rfl (e_var 1) (e_var 2)) (e_ix rfl (e_gstr G.s_WORDS rfl) (e_var 3)))))))))))
/-! label_of -/
abbrev N_label_of : List Str := ["word", "kind", "letter"]
theorem nd_label_of : N_label_of.Nodup := by decide +kernel
theorem sc_label_of : FnScope N_label_of ["word"] (C8.fnScope (topS 45)) := ⟨rfl, rfl, rfl, nd_label_of, rfl, by decide +kernel, by decide +kernel⟩
def sm_label_of (ns : List Int) : SmS := (ssSeq (ssIf (smOp2 pEq (smV 0) (smC (.str c6))) (ssRet (smTup (saCons (smC (.str c6)) (saCons (smC (.int 0)) saNil)))) ssNil)
  (ssSeq (ssAsg 1 (smIf (smOp2 pEq (smOp2 (pIxS ns) (smV 0) (smC (.int 0))) (smC (.str c13))) (smC (.str c12)) (smC (.str c4))))
  (ssSeq (ssAsg 2 (smIf (smOp2 pEq (smV 1) (smC (.str c12))) (smSl (smV 0) (some (smC (.int 1))) none) (smV 0)))
  (ssRet (smIf (smAnd (smOp2 pEq (smCB (pLen ns) (saCons (smV 2) saNil)) (smC (.int 1))) (smOp2 pIn (smV 2) (smC (.str c10)))) (smTup (saCons (smV 1) (saCons (smM1 pIndexS (smC (.str c10)) (smV 2)) saNil))) (smC .non))))))
def F_label_of (ns : List Int) : Fs := runB 1 3 (sm_label_of ns)
theorem ok_label_of {S : Sg} {mg : Str → Option Value} {base : Heap} (G : Gx S mg base) : CalF S mg base 1 "label_of" 1 (F_label_of S.ns) := by
  obtain ⟨fad, fd, hx, F⟩ := G.d_label_of
  have nd := nd_label_of
  refine cal_ok (N := N_label_of) (k := 0) (sm := sm_label_of S.ns) hx F sc_label_of (fun _ _ _ _ _ _ us hl => match us, hl with | [_], _ => rfl) fun cdv A outer s H E hr => ?_
  exact (ss_cons (ss_if (t_cmp (c_eq rfl (hu_room hr)) (e_var 0) (e_str c6_eq)) (ss_one (ss_ret (se_tup (a_cons (e_str c6_eq) (a_cons e_int sa_nil))))) ss_nil)
  (ss_cons (s_set 1 nd (se_if (t_cmp (c_eq rfl (hu_room hr)) (e_ix rfl (e_var 0) e_int) (e_str c13_eq)) (e_str c12_eq) (e_str c4_eq)))
  (ss_cons (s_set 2 nd (se_if (t_cmp (c_eq rfl (hu_room hr)) (e_var 1) (e_str c12_eq)) (se_slice rfl (e_var 0) (.some e_int) .none) (e_var 0)))
  (ss_one (ss_ret (se_if (t_w (sw_and (t_cmp (c_eq rfl (hu_room hr)) (e_len rfl G.b_len (a_cons (e_var 2) sa_nil)) e_int) (sw_and1 (t_cmp (c_in rfl (hu_room hr)) (e_var 2) (e_gstr G.s_WORDS rfl))))) (se_tup (a_cons (e_var 1) (a_cons (e_indexS (e_gstr G.s_WORDS rfl) (e_var 2)) sa_nil))) e_non))))))
/-! read_row -/
abbrev N_read_row : List Str := ["text", "found", "at", "word", "label"]
theorem nd_read_row : N_read_row.Nodup := by decide +kernel
theorem sc_read_row : FnScope N_read_row ["text"] (C8.fnScope (topS 46)) := ⟨rfl, rfl, rfl, nd_read_row, rfl, by decide +kernel, by decide +kernel⟩
def sm_read_row (ns : List Int) : SmS := (ssSeq (ssExpr (smCall (F_need_text ns) (saCons (smV 0) saNil)))
  (ssSeq (ssAsg 1 (smLst saNil))
  (ssSeq (ssFor (asT' (asCons (asN 2) (asCons (asN 3) asNil))) (smRg enumOf (saCons (smCall (F_words_of ns) (saCons (smV 0) saNil)) saNil)) (ssSeq (ssAsg 4 (smCall (F_label_of ns) (saCons (smV 3) saNil)))
  (ssSeq (ssIf (smOr (smOp2 pIs (smV 4) (smC .non)) (smOp2 pEq (smV 2) (smC (.int 40)))) (ssRaiseA 6 ["line", "word"] (saCons (smC (.int 1)) (saCons (smOp2 pAdd (smV 2) (smC (.int 1))) saNil))) ssNil)
  (ssExpr (smMut mAppend 1 (saCons (smV 4) saNil))))))
  (ssRet (smCB pTuple (saCons (smV 1) saNil))))))
def F_read_row (ns : List Int) : Fs := runB 1 5 (sm_read_row ns)
theorem ok_read_row {S : Sg} {mg : Str → Option Value} {base : Heap} (G : Gx S mg base) : CalF S mg base 2 "read_row" 1 (F_read_row S.ns) := by
  obtain ⟨fad, fd, hx, F⟩ := G.d_read_row
  have nd := nd_read_row
  refine cal_ok (N := N_read_row) (k := 1) (sm := sm_read_row S.ns) hx F sc_read_row (fun _ _ _ _ _ _ us hl => match us, hl with | [_], _ => rfl) fun cdv A outer s H E hr => ?_
  exact (ss_cons (s_expr (e_call (ok_need_text G) (by omega) hr tk_body (a_cons (e_var 0) sa_nil)))
  (ss_cons (s_set 1 nd (se_lst sa_nil))
  (ss_cons (s_for po_body (i_enum rfl G.b_enumerate (a_cons (e_call (ok_words_of G) (by omega) hr tk_body (a_cons (e_var 0) sa_nil)) sa_nil)) (g_any rfl (g_cons (g_name 2 nd) ((g_cons (g_name 3 nd) (sg_nil (ix := []))))) (asCons_len (asCons_len asNil_len))) (ss_cons (s_set 4 nd (e_call (ok_label_of G) (by omega) hr tk_body (a_cons (e_var 3) sa_nil)))
  (ss_cons (ss_if (t_w (sw_or (t_cmp c_is (e_var 4) e_non) (sw_or1 (t_cmp (c_eq rfl (hu_room hr)) (e_var 2) (e_gint G.i_MOST_ROW))))) (ss_one (s_raiseA G.r_InvalidText tkR_body hr (a_cons e_int (a_cons (e_add rfl (e_var 2) e_int) sa_nil)))) ss_nil)
  (ss_one (s_expr (e_append 1 (a_cons (e_var 4) sa_nil)))))))
  (ss_one (ss_ret (e_tuple rfl G.b_tuple (a_cons (e_var 1) sa_nil)))))))
/-! write_log -/
abbrev N_write_log : List Str := ["log", "kind", "word"]
theorem nd_write_log : N_write_log.Nodup := by decide +kernel
theorem sc_write_log : FnScope N_write_log ["log"] (C8.fnScope (topS 47)) := ⟨rfl, rfl, rfl, nd_write_log, rfl, by decide +kernel, by decide +kernel⟩
def sm_write_log (ns : List Int) : SmS := (ssSeq (ssExpr (smCall (F_need_log ns) (saCons (smV 0) saNil)))
  (ssRet (smM1 pJoin (smC (.str c7)) (smLc [1, 2] (asT' (asCons (asN 1) (asCons (asN 2) asNil))) (smIt (smV 0)) (smC (.bl true)) (smIf (smOp2 pEq (smV 1) (smC (.str c6))) (smC (.str c6)) (smOp2 pAdd (smOp2 pAdd (smV 1) (smC (.str c14))) (smOp2 (pIxS ns) (smC (.str c10)) (smV 2))))))))
def F_write_log (ns : List Int) : Fs := runB 1 3 (sm_write_log ns)
theorem ok_write_log {S : Sg} {mg : Str → Option Value} {base : Heap} (G : Gx S mg base) : CalF S mg base 4 "write_log" 1 (F_write_log S.ns) := by
  obtain ⟨fad, fd, hx, F⟩ := G.d_write_log
  have nd := nd_write_log
  refine cal_ok (N := N_write_log) (k := 3) (sm := sm_write_log S.ns) hx F sc_write_log (fun _ _ _ _ _ _ us hl => match us, hl with | [_], _ => rfl) fun cdv A outer s H E hr => ?_
  exact (ss_cons (s_expr (e_call (ok_need_log G) (by omega) hr tk_body (a_cons (e_var 0) sa_nil)))
  (ss_one (ss_ret (e_join rfl (e_str c7_eq) (e_lc [("kind", 1), ("word", 2)] nd (si_any rfl (e_var 0)) (fun _ _ _ _ _ => (g_any rfl (g_cons (g_name 1 nd) ((g_cons (g_name 2 nd) (sg_nil (ix := []))))) (asCons_len (asCons_len asNil_len)))) (fun _ _ _ _ _ => spt_nil) (fun _ _ _ _ _ => (se_if (t_cmp (c_eq rfl (hu_room hr)) (e_var 1) (e_str c6_eq)) (e_str c6_eq) (e_add rfl (e_add rfl (e_var 1) (e_str c14_eq)) (e_ix rfl (e_gstr G.s_WORDS rfl) (e_var 2))))))))))
/-! entry_of -/
abbrev N_entry_of : List Str := ["word", "kind", "letter", "good"]
theorem nd_entry_of : N_entry_of.Nodup := by decide +kernel
theorem sc_entry_of : FnScope N_entry_of ["word"] (C8.fnScope (topS 48)) := ⟨rfl, rfl, rfl, nd_entry_of, rfl, by decide +kernel, by decide +kernel⟩
def sm_entry_of (ns : List Int) : SmS := (ssSeq (ssIf (smOp2 pEq (smV 0) (smC (.str c6))) (ssRet (smTup (saCons (smC (.str c6)) (saCons (smC (.int 0)) saNil)))) ssNil)
  (ssSeq (ssIf (smOp2 pNe (smM1 pCountS (smV 0) (smC (.str c14))) (smC (.int 1))) (ssRet (smC .non)) ssNil)
  (ssSeq (ssAsgT (asT' (asCons (asN 1) (asCons (asN 2) asNil))) (smM1 pSplit (smV 0) (smC (.str c14))))
  (ssSeq (ssAsg 3 (smAnd (smOp2 pIn (smV 1) (smTup (saCons (smC (.str c18)) (saCons (smC (.str c17)) (saCons (smC (.str c16)) (saCons (smC (.str c15)) saNil)))))) (smAnd (smOp2 pEq (smCB (pLen ns) (saCons (smV 2) saNil)) (smC (.int 1))) (smOp2 pIn (smV 2) (smC (.str c10))))))
  (ssRet (smIf (smV 3) (smTup (saCons (smV 1) (saCons (smM1 pIndexS (smC (.str c10)) (smV 2)) saNil))) (smC .non)))))))
def F_entry_of (ns : List Int) : Fs := runB 1 4 (sm_entry_of ns)
theorem ok_entry_of {S : Sg} {mg : Str → Option Value} {base : Heap} (G : Gx S mg base) : CalF S mg base 1 "entry_of" 1 (F_entry_of S.ns) := by
  obtain ⟨fad, fd, hx, F⟩ := G.d_entry_of
  have nd := nd_entry_of
  refine cal_ok (N := N_entry_of) (k := 0) (sm := sm_entry_of S.ns) hx F sc_entry_of (fun _ _ _ _ _ _ us hl => match us, hl with | [_], _ => rfl) fun cdv A outer s H E hr => ?_
  exact (ss_cons (ss_if (t_cmp (c_eq rfl (hu_room hr)) (e_var 0) (e_str c6_eq)) (ss_one (ss_ret (se_tup (a_cons (e_str c6_eq) (a_cons e_int sa_nil))))) ss_nil)
  (ss_cons (ss_if (t_cmp (c_ne rfl (hu_room hr)) (e_countS (e_var 0) (e_str c14_eq)) e_int) (ss_one (ss_ret e_non)) ss_nil)
  (ss_cons (s_asgT (e_split (e_var 0) (e_str c14_eq)) (g_any rfl (g_cons (g_name 1 nd) ((g_cons (g_name 2 nd) (sg_nil (ix := []))))) (asCons_len (asCons_len asNil_len))))
  (ss_cons (s_set 3 nd (se_and (e_cmp (c_in rfl (hu_room hr)) (e_var 1) (se_tup (a_cons (e_str c18_eq) (a_cons (e_str c17_eq) (a_cons (e_str c16_eq) (a_cons (e_str c15_eq) sa_nil)))))) (se_and (e_cmp (c_eq rfl (hu_room hr)) (e_len rfl G.b_len (a_cons (e_var 2) sa_nil)) e_int) (se_one (e_cmp (c_in rfl (hu_room hr)) (e_var 2) (e_gstr G.s_WORDS rfl))))))
  (ss_one (ss_ret (se_if (t_val (e_var 3)) (se_tup (a_cons (e_var 1) (a_cons (e_indexS (e_gstr G.s_WORDS rfl) (e_var 2)) sa_nil))) e_non)))))))
/-! read_log_text -/
abbrev N_read_log_text : List Str := ["text", "found", "at", "word", "entry"]
theorem nd_read_log_text : N_read_log_text.Nodup := by decide +kernel
theorem sc_read_log_text : FnScope N_read_log_text ["text"] (C8.fnScope (topS 49)) := ⟨rfl, rfl, rfl, nd_read_log_text, rfl, by decide +kernel, by decide +kernel⟩
def sm_read_log_text (ns : List Int) : SmS := (ssSeq (ssExpr (smCall (F_need_text ns) (saCons (smV 0) saNil)))
  (ssSeq (ssAsg 1 (smLst saNil))
  (ssSeq (ssFor (asT' (asCons (asN 2) (asCons (asN 3) asNil))) (smRg enumOf (saCons (smCall (F_words_of ns) (saCons (smV 0) saNil)) saNil)) (ssSeq (ssAsg 4 (smCall (F_entry_of ns) (saCons (smV 3) saNil)))
  (ssSeq (ssIf (smOr (smOp2 pIs (smV 4) (smC .non)) (smOp2 pEq (smV 2) (smC (.int 60)))) (ssRaiseA 6 ["line", "word"] (saCons (smC (.int 1)) (saCons (smOp2 pAdd (smV 2) (smC (.int 1))) saNil))) ssNil)
  (ssExpr (smMut mAppend 1 (saCons (smV 4) saNil))))))
  (ssRet (smCB pTuple (saCons (smV 1) saNil))))))
def F_read_log_text (ns : List Int) : Fs := runB 1 5 (sm_read_log_text ns)
theorem ok_read_log_text {S : Sg} {mg : Str → Option Value} {base : Heap} (G : Gx S mg base) : CalF S mg base 2 "read_log_text" 1 (F_read_log_text S.ns) := by
  obtain ⟨fad, fd, hx, F⟩ := G.d_read_log_text
  have nd := nd_read_log_text
  refine cal_ok (N := N_read_log_text) (k := 1) (sm := sm_read_log_text S.ns) hx F sc_read_log_text (fun _ _ _ _ _ _ us hl => match us, hl with | [_], _ => rfl) fun cdv A outer s H E hr => ?_
  exact (ss_cons (s_expr (e_call (ok_need_text G) (by omega) hr tk_body (a_cons (e_var 0) sa_nil)))
  (ss_cons (s_set 1 nd (se_lst sa_nil))
  (ss_cons (s_for po_body (i_enum rfl G.b_enumerate (a_cons (e_call (ok_words_of G) (by omega) hr tk_body (a_cons (e_var 0) sa_nil)) sa_nil)) (g_any rfl (g_cons (g_name 2 nd) ((g_cons (g_name 3 nd) (sg_nil (ix := []))))) (asCons_len (asCons_len asNil_len))) (ss_cons (s_set 4 nd (e_call (ok_entry_of G) (by omega) hr tk_body (a_cons (e_var 3) sa_nil)))
  (ss_cons (ss_if (t_w (sw_or (t_cmp c_is (e_var 4) e_non) (sw_or1 (t_cmp (c_eq rfl (hu_room hr)) (e_var 2) (e_gint G.i_MOST_LOG))))) (ss_one (s_raiseA G.r_InvalidText tkR_body hr (a_cons e_int (a_cons (e_add rfl (e_var 2) e_int) sa_nil)))) ss_nil)
  (ss_one (s_expr (e_append 1 (a_cons (e_var 4) sa_nil)))))))
  (ss_one (ss_ret (e_tuple rfl G.b_tuple (a_cons (e_var 1) sa_nil)))))))
/-! place_text -/
abbrev N_place_text : List Str := ["place", "at"]
theorem nd_place_text : N_place_text.Nodup := by decide +kernel
theorem sc_place_text : FnScope N_place_text ["place"] (C8.fnScope (topS 50)) := ⟨rfl, rfl, rfl, nd_place_text, rfl, by decide +kernel, by decide +kernel⟩
def sm_place_text (ns : List Int) : SmS := (ssRet (smIf (smOp2 pNe (smV 0) (smTup saNil)) (smM1 pJoin (smC (.str c19)) (smLc [1] (asN 1) (smIt (smV 0)) (smC (.bl true)) (smCB pStr (saCons (smV 1) saNil)))) (smC (.str c13))))
def F_place_text (ns : List Int) : Fs := runB 1 2 (sm_place_text ns)
theorem ok_place_text {S : Sg} {mg : Str → Option Value} {base : Heap} (G : Gx S mg base) : CalF S mg base 1 "place_text" 1 (F_place_text S.ns) := by
  obtain ⟨fad, fd, hx, F⟩ := G.d_place_text
  have nd := nd_place_text
  refine cal_ok (N := N_place_text) (k := 0) (sm := sm_place_text S.ns) hx F sc_place_text (fun _ _ _ _ _ _ us hl => match us, hl with | [_], _ => rfl) fun cdv A outer s H E hr => ?_
  exact (ss_one (ss_ret (se_if (t_cmp (c_ne rfl (hu_room hr)) (e_var 0) (se_tup sa_nil)) (e_join rfl (e_str c19_eq) (e_lc [("at", 1)] nd (si_any rfl (e_var 0)) (fun _ _ _ _ _ => (g_name 1 nd)) (fun _ _ _ _ _ => spt_nil) (fun _ _ _ _ _ => (e_strc G.b_str (a_cons (e_var 1) sa_nil))))) (e_str c13_eq))))
/-! write_paper -/
abbrev N_write_paper : List Str := ["paper", "place", "rule"]
theorem nd_write_paper : N_write_paper.Nodup := by decide +kernel
theorem sc_write_paper : FnScope N_write_paper ["paper"] (C8.fnScope (topS 51)) := ⟨rfl, rfl, rfl, nd_write_paper, rfl, by decide +kernel, by decide +kernel⟩
def sm_write_paper (ns : List Int) : SmS := (ssSeq (ssExpr (smCall (F_need_paper ns) (saCons (smV 0) saNil)))
  (ssRet (smM1 pJoin (smC (.str c7)) (smLc [1, 2] (asT' (asCons (asN 1) (asCons (asN 2) asNil))) (smIt (smV 0)) (smC (.bl true)) (smOp2 pAdd (smOp2 pAdd (smCall (F_place_text ns) (saCons (smV 1) saNil)) (smC (.str c14))) (smV 2))))))
def F_write_paper (ns : List Int) : Fs := runB 1 3 (sm_write_paper ns)
theorem ok_write_paper {S : Sg} {mg : Str → Option Value} {base : Heap} (G : Gx S mg base) : CalF S mg base 4 "write_paper" 1 (F_write_paper S.ns) := by
  obtain ⟨fad, fd, hx, F⟩ := G.d_write_paper
  have nd := nd_write_paper
  refine cal_ok (N := N_write_paper) (k := 3) (sm := sm_write_paper S.ns) hx F sc_write_paper (fun _ _ _ _ _ _ us hl => match us, hl with | [_], _ => rfl) fun cdv A outer s H E hr => ?_
  exact (ss_cons (s_expr (e_call (ok_need_paper G) (by omega) hr tk_body (a_cons (e_var 0) sa_nil)))
  (ss_one (ss_ret (e_join rfl (e_str c7_eq) (e_lc [("place", 1), ("rule", 2)] nd (si_any rfl (e_var 0)) (fun _ _ _ _ _ => (g_any rfl (g_cons (g_name 1 nd) ((g_cons (g_name 2 nd) (sg_nil (ix := []))))) (asCons_len (asCons_len asNil_len)))) (fun _ _ _ _ _ => spt_nil) (fun _ _ _ _ _ => (e_add rfl (e_add rfl (e_call (ok_place_text G) (by omega) hr tk_blk (a_cons (e_var 1) sa_nil)) (e_str c14_eq)) (e_var 2))))))))
/-! step_of -/
abbrev N_step_of : List Str := ["word", "head", "rule", "place", "part"]
theorem nd_step_of : N_step_of.Nodup := by decide +kernel
theorem sc_step_of : FnScope N_step_of ["word"] (C8.fnScope (topS 52)) := ⟨rfl, rfl, rfl, nd_step_of, rfl, by decide +kernel, by decide +kernel⟩
def sm_step_of (ns : List Int) : SmS := (ssSeq (ssIf (smOp2 pNe (smM1 pCountS (smV 0) (smC (.str c14))) (smC (.int 1))) (ssRet (smC .non)) ssNil)
  (ssSeq (ssAsgT (asT' (asCons (asN 1) (asCons (asN 2) asNil))) (smM1 pSplit (smV 0) (smC (.str c14))))
  (ssSeq (ssAsg 3 (smIf (smOp2 pNe (smV 1) (smC (.str c13))) (smLc [4] (asN 4) (smIt (smM1 pSplit (smV 1) (smC (.str c19)))) (smC (.bl true)) (smCall (F_number_of ns) (saCons (smV 4) (saCons (smOp2 pSub (smOp2 pMul (smC (.int 2)) (smC (.int 12))) (smC (.int 1))) saNil)))) (smLst saNil)))
  (ssSeq (ssIf (smOr (smOp2 pNotIn (smV 2) (smC k_RULES)) (smOr (smOp2 pIn (smC .non) (smV 3)) (smOp2 pGt (smCB (pLen ns) (saCons (smV 3) saNil)) (smC (.int 40))))) (ssRet (smC .non)) ssNil)
  (ssRet (smTup (saCons (smCB pTuple (saCons (smV 3) saNil)) (saCons (smV 2) saNil))))))))
def F_step_of (ns : List Int) : Fs := runB 1 5 (sm_step_of ns)
theorem ok_step_of {S : Sg} {mg : Str → Option Value} {base : Heap} (G : Gx S mg base) : CalF S mg base 2 "step_of" 1 (F_step_of S.ns) := by
  obtain ⟨fad, fd, hx, F⟩ := G.d_step_of
  have nd := nd_step_of
  refine cal_ok (N := N_step_of) (k := 1) (sm := sm_step_of S.ns) hx F sc_step_of (fun _ _ _ _ _ _ us hl => match us, hl with | [_], _ => rfl) fun cdv A outer s H E hr => ?_
  exact (ss_cons (ss_if (t_cmp (c_ne rfl (hu_room hr)) (e_countS (e_var 0) (e_str c14_eq)) e_int) (ss_one (ss_ret e_non)) ss_nil)
  (ss_cons (s_asgT (e_split (e_var 0) (e_str c14_eq)) (g_any rfl (g_cons (g_name 1 nd) ((g_cons (g_name 2 nd) (sg_nil (ix := []))))) (asCons_len (asCons_len asNil_len))))
  (ss_cons (s_set 3 nd (se_if (t_cmp (c_ne rfl (hu_room hr)) (e_var 1) (e_str c13_eq)) (e_lc [("part", 4)] nd (si_any rfl (e_split (e_var 1) (e_str c19_eq))) (fun _ _ _ _ _ => (g_name 4 nd)) (fun _ _ _ _ _ => spt_nil) (fun _ _ _ _ _ => (e_call (ok_number_of G) (by omega) hr tk_blk (a_cons (e_var 4) (a_cons (e_sub (e_mul rfl e_int (e_gint G.i_MOST_WORDS)) e_int) sa_nil))))) (se_lst sa_nil)))
  (ss_cons (ss_if (t_w (sw_or (t_cmp (c_nin rfl (hu_room hr)) (e_var 2) (e_gdat G.k_RULES)) (sw_or (t_cmp (c_in rfl (hu_room hr)) e_non (e_var 3)) (sw_or1 (t_cmp c_gt (e_len rfl G.b_len (a_cons (e_var 3) sa_nil)) (e_gint G.i_MOST_DEEP)))))) (ss_one (ss_ret e_non)) ss_nil)
  (ss_one (ss_ret (se_tup (a_cons (e_tuple rfl G.b_tuple (a_cons (e_var 3) sa_nil)) (a_cons (e_var 2) sa_nil)))))))))
/-! read_paper -/
abbrev N_read_paper : List Str := ["text", "found", "at", "word", "line"]
theorem nd_read_paper : N_read_paper.Nodup := by decide +kernel
theorem sc_read_paper : FnScope N_read_paper ["text"] (C8.fnScope (topS 53)) := ⟨rfl, rfl, rfl, nd_read_paper, rfl, by decide +kernel, by decide +kernel⟩
def sm_read_paper (ns : List Int) : SmS := (ssSeq (ssExpr (smCall (F_need_text ns) (saCons (smV 0) saNil)))
  (ssSeq (ssAsg 1 (smLst saNil))
  (ssSeq (ssFor (asT' (asCons (asN 2) (asCons (asN 3) asNil))) (smRg enumOf (saCons (smCall (F_words_of ns) (saCons (smV 0) saNil)) saNil)) (ssSeq (ssAsg 4 (smCall (F_step_of ns) (saCons (smV 3) saNil)))
  (ssSeq (ssIf (smOr (smOp2 pIs (smV 4) (smC .non)) (smOp2 pEq (smV 2) (smC (.int 1000)))) (ssRaiseA 6 ["line", "word"] (saCons (smC (.int 1)) (saCons (smOp2 pAdd (smV 2) (smC (.int 1))) saNil))) ssNil)
  (ssExpr (smMut mAppend 1 (saCons (smV 4) saNil))))))
  (ssRet (smCB pTuple (saCons (smV 1) saNil))))))
def F_read_paper (ns : List Int) : Fs := runB 1 5 (sm_read_paper ns)
theorem ok_read_paper {S : Sg} {mg : Str → Option Value} {base : Heap} (G : Gx S mg base) : CalF S mg base 3 "read_paper" 1 (F_read_paper S.ns) := by
  obtain ⟨fad, fd, hx, F⟩ := G.d_read_paper
  have nd := nd_read_paper
  refine cal_ok (N := N_read_paper) (k := 2) (sm := sm_read_paper S.ns) hx F sc_read_paper (fun _ _ _ _ _ _ us hl => match us, hl with | [_], _ => rfl) fun cdv A outer s H E hr => ?_
  exact (ss_cons (s_expr (e_call (ok_need_text G) (by omega) hr tk_body (a_cons (e_var 0) sa_nil)))
  (ss_cons (s_set 1 nd (se_lst sa_nil))
  (ss_cons (s_for po_body (i_enum rfl G.b_enumerate (a_cons (e_call (ok_words_of G) (by omega) hr tk_body (a_cons (e_var 0) sa_nil)) sa_nil)) (g_any rfl (g_cons (g_name 2 nd) ((g_cons (g_name 3 nd) (sg_nil (ix := []))))) (asCons_len (asCons_len asNil_len))) (ss_cons (s_set 4 nd (e_call (ok_step_of G) (by omega) hr tk_body (a_cons (e_var 3) sa_nil)))
  (ss_cons (ss_if (t_w (sw_or (t_cmp c_is (e_var 4) e_non) (sw_or1 (t_cmp (c_eq rfl (hu_room hr)) (e_var 2) (e_gint G.i_MOST_STEPS))))) (ss_one (s_raiseA G.r_InvalidText tkR_body hr (a_cons e_int (a_cons (e_add rfl (e_var 2) e_int) sa_nil)))) ss_nil)
  (ss_one (s_expr (e_append 1 (a_cons (e_var 4) sa_nil)))))))
  (ss_one (ss_ret (e_tuple rfl G.b_tuple (a_cons (e_var 1) sa_nil)))))))
/-! _law_taken -/
abbrev N_law_taken : List Str := ["_law_row", "_law_many", "_law_found", "_law_cell"]
theorem nd_law_taken : N_law_taken.Nodup := by decide +kernel
theorem sc_law_taken : FnScope N_law_taken ["_law_row", "_law_many"] (C8.fnScope (topS 55)) := ⟨rfl, rfl, rfl, nd_law_taken, rfl, by decide +kernel, by decide +kernel⟩
def sm_law_taken (ns : List Int) : SmS := (ssSeq (ssIf (smOp2 pGt (smPkL (pIxS ns) 0 (smC (.int 3))) (smC (.int 0))) (ssSeq (ssAsg 2 (smOp2 pMod (smCB pInt (saCons (smPkL (pIxS ns) 0 (smC (.int 3))) saNil)) (smV 1)))
  (ssSeq (ssPut (smOp2 pDiv (smPkL (pIxS ns) 0 (smC (.int 3))) (smV 1)) 0 (smC (.int 3)))
  (ssRetV 2))) ssNil)
  (ssSeq (ssPut (smOp2 pAdd (smPkL (pIxS ns) 0 (smC (.int 1))) (smC (.int 1))) 0 (smC (.int 1)))
  (ssSeq (ssIf (smOp2 pGt (smPkL (pIxS ns) 0 (smC (.int 1))) (smCB (pLen ns) (saCons (smPkL (pIxS ns) 0 (smC (.int 0))) saNil))) (ssSeq (ssPut (smOp2 pMod (smCB pInt (saCons (smOp2 pAdd (smOp2 pMul (smPkL (pIxS ns) 0 (smC (.int 2))) (smC (.int 48271))) (smC (.int 11))) saNil)) (smC (.int 2147483647))) 0 (smC (.int 2)))
  (ssRet (smOp2 pMod (smCB pInt (saCons (smOp2 pDiv (smPkL (pIxS ns) 0 (smC (.int 2))) (smC (.int 7))) saNil)) (smV 1)))) ssNil)
  (ssSeq (ssAsg 3 (smOp2 (pIxS ns) (smPkL (pIxS ns) 0 (smC (.int 0))) (smOp2 pSub (smPkL (pIxS ns) 0 (smC (.int 1))) (smC (.int 1)))))
  (ssSeq (ssPut (smOp2 pMod (smCB pInt (saCons (smOp2 pAdd (smOp2 pAdd (smOp2 pMul (smPkL (pIxS ns) 0 (smC (.int 2))) (smC (.int 48271))) (smV 3)) (smC (.int 11))) saNil)) (smC (.int 2147483647))) 0 (smC (.int 2)))
  (ssSeq (ssIf (smOp2 pGe (smV 3) (smOp2 pPow (smC (.int 10)) (smC (.int 18)))) (ssPut (smOp2 pDiv (smV 3) (smV 1)) 0 (smC (.int 3))) ssNil)
  (ssRet (smOp2 pMod (smCB pInt (saCons (smV 3) saNil)) (smV 1)))))))))
def F_law_taken (ns : List Int) : Fs := runB 2 4 (sm_law_taken ns)
theorem ok_law_taken {S : Sg} {mg : Str → Option Value} {base : Heap} (G : Gx S mg base) : CalF S mg base 1 "_law_taken" 2 (F_law_taken S.ns) := by
  obtain ⟨fad, fd, hx, F⟩ := G.d_law_taken
  have nd := nd_law_taken
  refine cal_ok (N := N_law_taken) (k := 0) (sm := sm_law_taken S.ns) hx F sc_law_taken (fun _ _ _ _ _ _ us hl => match us, hl with | [_, _], _ => rfl) fun cdv A outer s H E hr => ?_
  exact (ss_cons (ss_if (t_cmp c_gt (e_ixL 0 rfl e_int) e_int) (ss_cons (s_set 2 nd (e_mod (e_intc G.b_int (a_cons (e_ixL 0 rfl e_int) sa_nil)) (e_var 1)))
  (ss_cons (s_put 0 (e_div (e_ixL 0 rfl e_int) (e_var 1)) e_int)
  (ss_one (s_retV 2)))) ss_nil)
  (ss_cons (s_put 0 (e_add rfl (e_ixL 0 rfl e_int) e_int) e_int)
  (ss_cons (ss_if (t_cmp c_gt (e_ixL 0 rfl e_int) (e_len rfl G.b_len (a_cons (e_ixL 0 rfl e_int) sa_nil))) (ss_cons (s_put 0 (e_mod (e_intc G.b_int (a_cons (e_add rfl (e_mul rfl (e_ixL 0 rfl e_int) e_int) e_int) sa_nil)) e_int) e_int)
  (ss_one (ss_ret (e_mod (e_intc G.b_int (a_cons (e_div (e_ixL 0 rfl e_int) e_int) sa_nil)) (e_var 1))))) ss_nil)
  (ss_cons (s_set 3 nd (e_ix rfl (e_ixL 0 rfl e_int) (e_sub (e_ixL 0 rfl e_int) e_int)))
  (ss_cons (s_put 0 (e_mod (e_intc G.b_int (a_cons (e_add rfl (e_add rfl (e_mul rfl (e_ixL 0 rfl e_int) e_int) (e_var 3)) e_int) sa_nil)) e_int) e_int)
  (ss_cons (ss_if (t_cmp c_ge (e_var 3) (e_pow e_int e_int)) (ss_one (s_put 0 (e_div (e_var 3) (e_var 1)) e_int)) ss_nil)
  (ss_one (ss_ret (e_mod (e_intc G.b_int (a_cons (e_var 3) sa_nil)) (e_var 1))))))))))
/-! _law_pick -/
abbrev N_law_pick : List Str := ["_law_row", "_law_kinds"]
theorem nd_law_pick : N_law_pick.Nodup := by decide +kernel
theorem sc_law_pick : FnScope N_law_pick ["_law_row", "_law_kinds"] (C8.fnScope (topS 56)) := ⟨rfl, rfl, rfl, nd_law_pick, rfl, by decide +kernel, by decide +kernel⟩
def sm_law_pick (ns : List Int) : SmS := (ssRet (smOp2 (pIxS ns) (smV 1) (smCall (F_law_taken ns) (saCons (smV 0) (saCons (smCB (pLen ns) (saCons (smV 1) saNil)) saNil)))))
def F_law_pick (ns : List Int) : Fs := runB 2 2 (sm_law_pick ns)
theorem ok_law_pick {S : Sg} {mg : Str → Option Value} {base : Heap} (G : Gx S mg base) : CalF S mg base 2 "_law_pick" 2 (F_law_pick S.ns) := by
  obtain ⟨fad, fd, hx, F⟩ := G.d_law_pick
  have nd := nd_law_pick
  refine cal_ok (N := N_law_pick) (k := 1) (sm := sm_law_pick S.ns) hx F sc_law_pick (fun _ _ _ _ _ _ us hl => match us, hl with | [_, _], _ => rfl) fun cdv A outer s H E hr => ?_
  exact (ss_one (ss_ret (e_ix rfl (e_var 1) (e_call (ok_law_taken G) (by omega) hr tk_body (a_cons (e_var 0) (a_cons (e_len rfl G.b_len (a_cons (e_var 1) sa_nil)) sa_nil))))))
/-! _law_told -/
abbrev N_law_told : List Str := ["_law_work", "e", "_law_known"]
theorem nd_law_told : N_law_told.Nodup := by decide +kernel
theorem sc_law_told : FnScope N_law_told ["_law_work"] (C8.fnScope (topS 57)) := ⟨rfl, rfl, rfl, nd_law_told, rfl, by decide +kernel, by decide +kernel⟩
def sx_law_told (ns : List Int) (z : Exn) : SmS := (ssSeq (ssIf (smIsE 7 1 z 6) (ssRet (smTup (saCons (smXf 7 1 z "line") (saCons (smXf 7 1 z "word") saNil)))) ssNil)
  (ssSeq (ssAsg 2 (smLst (saCons (smIsE 7 1 z 5) (saCons (smIsE 7 1 z 1) (saCons (smIsE 7 1 z 2) (saCons (smIsE 7 1 z 4) (saCons (smIsE 7 1 z 3) saNil)))))))
  (ssRet (smIf (smOp2 pEq (smMtL pCntL 2 (saCons (smC (.bl true)) saNil)) (smC (.int 1))) (smOp2 (pIxS ns) (smLst (saCons (smC (.str c24)) (saCons (smC (.str c23)) (saCons (smC (.str c22)) (saCons (smC (.str c21)) (saCons (smC (.str c20)) saNil)))))) (smMtL pIdxL 2 (saCons (smC (.bl true)) saNil))) (smC (.str c25))))))
theorem told_law_told {S : Sg} {mg : Str → Option Value} {base : Heap} (G : Gx S mg base) {N : List Str} {qual : Str} {scope : Scope} {fad : Addr} {cdv : Value} {A : Around} {outer : List Env} {s : Shared} {H : Hp} {E : XK} {k : Nat} (hr : Room (k + 1) (Xb S mg base N qual scope fad cdv A outer s H E).A) :
    ToldF S (Xb S mg base N qual scope fad cdv A outer s H E) "_law_told" "_law_work" N_law_told 3 1 7 (guardX 7 (sx_law_told S.ns)) (fun _ H' Q => Q (.str c8) H') := by
  obtain ⟨g, fd, hx, F⟩ := G.d_law_told
  have nd := nd_law_told
  have bN := F.bindsN (ps := ["_law_work"]) (fun _ _ _ _ _ _ us hl => match us, hl with | [_], _ => rfl)
  obtain ⟨oc, od, dV, kV, doc, pm, an, cdg, ct, osl, rfl, lk, hcd, _, _⟩ := F.ex
  obtain ⟨CS, hCS, hme⟩ := G.e_ScopeError
  refine ⟨⟨g, oc, od, _, _, _, dV, kV, doc, pm, cdg, ct, an, osl, hx, F.kp, lk, hcd, bN, sc_law_told, rfl, .inl rfl, fun q => givesA (sx := guardX 7 (sx_law_told S.ns)) G.et G.xp hCS rfl nd rfl rfl rfl hme (by decide) (fun f => rfl) (fun _ _ => rfl) (su_guard fun s H a oe d pn z Dc hz hf hD hd => ?_)⟩⟩
  have e0 : Str.ofString "" = c8 := c8_eq.symm
  exact (ss_cons (ss_if (t_val (e_isE 1 6 G.et hD hz hf hd G.e_InvalidText G.b_isinstance)) (ss_one (ss_ret (se_tup (a_cons (e_xf 1 G.et (.tail _ (.head _)) hD hz hf) (a_cons (e_xf 1 G.et (.tail _ (.tail _ (.head _))) hD hz hf) sa_nil))))) ss_nil)
  (ss_cons (s_set 2 nd (se_lst (a_cons (e_isE 1 5 G.et hD hz hf hd G.e_NotText G.b_isinstance) (a_cons (e_isE 1 1 G.et hD hz hf hd G.e_BadPlan G.b_isinstance) (a_cons (e_isE 1 2 G.et hD hz hf hd G.e_BadRow G.b_isinstance) (a_cons (e_isE 1 4 G.et hD hz hf hd G.e_BadLog G.b_isinstance) (a_cons (e_isE 1 3 G.et hD hz hf hd G.e_BadPaper G.b_isinstance) sa_nil)))))))
  (ss_one (ss_ret (se_if (t_cmp (c_eq rfl (hu_su hr)) (e_countL 2 (hu_su hr) (a_cons e_bl sa_nil)) e_int) (e_ix rfl (se_lst (a_cons (e_str c24_eq) (a_cons (e_str c23_eq) (a_cons (e_str c22_eq) (a_cons (e_str c21_eq) (a_cons (e_str c20_eq) sa_nil)))))) (e_indexL 2 (hu_su hr) (a_cons e_bl sa_nil))) (e_str c25_eq))))))
def tab_law (ns : List Int) (n : Nat) : Option Fs := if n = 48 then some (F_read_paper ns) else if n = 44 then some (F_read_log_text ns) else if n = 41 then some (F_read_row ns) else if n = 38 then some (F_read_plan ns) else none
theorem tabok_law {S : Sg} {mg : Str → Option Value} {base : Heap} (G : Gx S mg base) : ∀ n F, tab_law S.ns n = some F → ∃ (y : Str) (m : Nat), (∃ u, mg y = some u ∧ KD S (.fn n) u) ∧ CalF S mg base 49 y m F := by
  intro n F h
  unfold tab_law at h
  split at h
  · rename_i hn
    subst hn
    cases h
    exact ⟨"read_paper", 1, G.f_read_paper, (ok_read_paper G).mono (by omega)⟩
  split at h
  · rename_i hn
    subst hn
    cases h
    exact ⟨"read_log_text", 1, G.f_read_log_text, (ok_read_log_text G).mono (by omega)⟩
  split at h
  · rename_i hn
    subst hn
    cases h
    exact ⟨"read_row", 1, G.f_read_row, (ok_read_row G).mono (by omega)⟩
  split at h
  · rename_i hn
    subst hn
    cases h
    exact ⟨"read_plan", 1, G.f_read_plan, (ok_read_plan G).mono (by omega)⟩
  cases h
/-! law -/
abbrev N_law : List Str := ["_law_script", "_law_row", "_law_tries", "_law_turn", "_law_text", "_law_word", "_law_none", "_law_found", "_law_work"]
theorem nd_law : N_law.Nodup := by decide +kernel
theorem sc_law : FnScope N_law ["_law_script"] (C8.fnScope (topS 58)) := ⟨rfl, rfl, rfl, nd_law, rfl, by decide +kernel, by decide +kernel⟩
def sm_law (ns : List Int) : SmS := (ssSeq (ssAsg 1 (smLstS (saCons (smV 0) (saCons (smC (.int 0)) (saCons (smC (.int 10714)) (saCons (smC (.int 0)) saNil))))))
  (ssSeq (ssAsg 2 (smLst (saCons (smTup (saCons (smC (.str c8)) (saCons (smC (.int 1)) saNil))) (saCons (smTup (saCons (smC (.str c76)) (saCons (smC (.int 1)) saNil))) (saCons (smTup (saCons (smC (.str c2)) (saCons (smC (.int 1)) saNil))) (saCons (smTup (saCons (smC (.str c75)) (saCons (smC (.int 3)) saNil))) (saCons (smTup (saCons (smC (.str c74)) (saCons (smC (.int 1)) saNil))) (saCons (smTup (saCons (smC (.str c73)) (saCons (smC (.int 1)) saNil))) (saCons (smTup (saCons (smC (.str c72)) (saCons (smC (.int 1)) saNil))) (saCons (smTup (saCons (smC (.str c71)) (saCons (smC (.int 1)) saNil))) saNil))))))))))
  (ssSeq (ssAsg 2 (smOp2 pAdd (smV 2) (smLst (saCons (smTup (saCons (smC (.str c0)) (saCons (smC (.int 2)) saNil))) (saCons (smTup (saCons (smC (.str c70)) (saCons (smC (.int 2)) saNil))) (saCons (smTup (saCons (smC (.str c69)) (saCons (smC (.int 2)) saNil))) (saCons (smTup (saCons (smC (.str c68)) (saCons (smC (.int 3)) saNil))) saNil)))))))
  (ssSeq (ssAsg 2 (smOp2 pAdd (smV 2) (smLst (saCons (smTup (saCons (smC (.str c67)) (saCons (smC (.int 1)) saNil))) (saCons (smTup (saCons (smC (.str c66)) (saCons (smC (.int 4)) saNil))) (saCons (smTup (saCons (smOp2 pAdd (smOp2 pMul (smC (.str c65)) (smC (.int 40))) (smC (.str c29))) (saCons (smC (.int 41)) saNil))) (saCons (smTup (saCons (smC (.str c64)) (saCons (smC (.int 1)) saNil))) (saCons (smTup (saCons (smC (.str c63)) (saCons (smC (.int 3)) saNil))) (saCons (smTup (saCons (smC (.str c62)) (saCons (smC (.int 4)) saNil))) saNil)))))))))
  (ssSeq (ssAsg 2 (smOp2 pAdd (smV 2) (smLst (saCons (smTup (saCons (smC (.str c61)) (saCons (smC (.int 1)) saNil))) (saCons (smTup (saCons (smOp2 pAdd (smC (.str c60)) (smOp2 pMul (smC (.str c58)) (smC (.int 25)))) (saCons (smC (.int 1)) saNil))) saNil)))))
  (ssSeq (ssAsg 2 (smOp2 pAdd (smV 2) (smLst (saCons (smTup (saCons (smOp2 pAdd (smOp2 pAdd (smOp2 pAdd (smC (.str c57)) (smOp2 pMul (smC (.str c58)) (smC (.int 12)))) (smC (.str c59))) (smOp2 pMul (smC (.str c58)) (smC (.int 13)))) (saCons (smC (.int 28)) saNil))) (saCons (smTup (saCons (smC (.str c56)) (saCons (smC (.int 5)) saNil))) saNil)))))
  (ssSeq (ssFor (asN 3) (smRg rg1 (saCons (smC (.int 7)) saNil)) (ssSeq (ssAsgT (asT' (asCons (asN 4) (asCons (asN 5) asNil))) (smCall (F_law_pick ns) (saCons (smV 1) (saCons (smV 2) saNil))))
  (ssIf (smOp2 pNe (smTold 3 1 (guardX 7 (sx_law_told ns)) (fun _ _ => some (false, .str c8)) (smCall (F_read_plan ns) (saCons (smV 4) saNil))) (smTup (saCons (smC (.int 1)) (saCons (smV 5) saNil)))) (ssRet (smC (.bl false))) ssNil)))
  (ssSeq (ssAsg 2 (smLst (saCons (smTup (saCons (smC (.str c55)) (saCons (smC (.int 2)) saNil))) (saCons (smTup (saCons (smC (.str c54)) (saCons (smC (.int 1)) saNil))) (saCons (smTup (saCons (smC (.str c53)) (saCons (smC (.int 3)) saNil))) (saCons (smTup (saCons (smC (.str c13)) (saCons (smC (.int 1)) saNil))) (saCons (smTup (saCons (smC (.str c52)) (saCons (smC (.int 1)) saNil))) (saCons (smTup (saCons (smOp2 pAdd (smOp2 pMul (smC (.str c51)) (smC (.int 40))) (smC (.str c29))) (saCons (smC (.int 41)) saNil))) (saCons (smTup (saCons (smC (.str c50)) (saCons (smC (.int 2)) saNil))) (saCons (smTup (saCons (smC (.str c49)) (saCons (smC (.int 1)) saNil))) saNil))))))))))
  (ssSeq (ssFor (asN 3) (smRg rg1 (saCons (smC (.int 3)) saNil)) (ssSeq (ssAsgT (asT' (asCons (asN 4) (asCons (asN 5) asNil))) (smCall (F_law_pick ns) (saCons (smV 1) (saCons (smV 2) saNil))))
  (ssIf (smOp2 pNe (smTold 3 1 (guardX 7 (sx_law_told ns)) (fun _ _ => some (false, .str c8)) (smCall (F_read_row ns) (saCons (smV 4) saNil))) (smTup (saCons (smC (.int 1)) (saCons (smV 5) saNil)))) (ssRet (smC (.bl false))) ssNil)))
  (ssSeq (ssAsg 2 (smLst (saCons (smTup (saCons (smC (.str c15)) (saCons (smC (.int 1)) saNil))) (saCons (smTup (saCons (smC (.str c48)) (saCons (smC (.int 1)) saNil))) (saCons (smTup (saCons (smC (.str c47)) (saCons (smC (.int 1)) saNil))) (saCons (smTup (saCons (smC (.str c46)) (saCons (smC (.int 2)) saNil))) (saCons (smTup (saCons (smC (.str c45)) (saCons (smC (.int 1)) saNil))) (saCons (smTup (saCons (smC (.str c44)) (saCons (smC (.int 1)) saNil))) (saCons (smTup (saCons (smC (.str c43)) (saCons (smC (.int 1)) saNil))) saNil)))))))))
  (ssSeq (ssAsg 2 (smOp2 pAdd (smV 2) (smLst (saCons (smTup (saCons (smC (.str c42)) (saCons (smC (.int 1)) saNil))) (saCons (smTup (saCons (smOp2 pAdd (smOp2 pMul (smC (.str c41)) (smC (.int 60))) (smC (.str c6))) (saCons (smC (.int 61)) saNil))) (saCons (smTup (saCons (smC (.str c40)) (saCons (smC (.int 2)) saNil))) saNil))))))
  (ssSeq (ssFor (asN 3) (smRg rg1 (saCons (smC (.int 3)) saNil)) (ssSeq (ssAsgT (asT' (asCons (asN 4) (asCons (asN 5) asNil))) (smCall (F_law_pick ns) (saCons (smV 1) (saCons (smV 2) saNil))))
  (ssIf (smOp2 pNe (smTold 3 1 (guardX 7 (sx_law_told ns)) (fun _ _ => some (false, .str c8)) (smCall (F_read_log_text ns) (saCons (smV 4) saNil))) (smTup (saCons (smC (.int 1)) (saCons (smV 5) saNil)))) (ssRet (smC (.bl false))) ssNil)))
  (ssSeq (ssAsg 2 (smLst (saCons (smTup (saCons (smC (.str c27)) (saCons (smC (.int 1)) saNil))) (saCons (smTup (saCons (smC (.str c39)) (saCons (smC (.int 1)) saNil))) (saCons (smTup (saCons (smC (.str c38)) (saCons (smC (.int 1)) saNil))) (saCons (smTup (saCons (smC (.str c37)) (saCons (smC (.int 2)) saNil))) (saCons (smTup (saCons (smC (.str c36)) (saCons (smC (.int 1)) saNil))) (saCons (smTup (saCons (smC (.str c35)) (saCons (smC (.int 1)) saNil))) (saCons (smTup (saCons (smC (.str c34)) (saCons (smC (.int 2)) saNil))) saNil)))))))))
  (ssSeq (ssAsg 2 (smOp2 pAdd (smV 2) (smLst (saCons (smTup (saCons (smC (.str c33)) (saCons (smC (.int 1)) saNil))) (saCons (smTup (saCons (smC (.str c32)) (saCons (smC (.int 1)) saNil))) (saCons (smTup (saCons (smOp2 pAdd (smOp2 pMul (smC (.str c30)) (smC (.int 1000))) (smC (.str c31))) (saCons (smC (.int 1001)) saNil))) saNil))))))
  (ssSeq (ssFor (asN 3) (smRg rg1 (saCons (smC (.int 3)) saNil)) (ssSeq (ssAsgT (asT' (asCons (asN 4) (asCons (asN 5) asNil))) (smCall (F_law_pick ns) (saCons (smV 1) (saCons (smV 2) saNil))))
  (ssIf (smOp2 pNe (smTold 3 1 (guardX 7 (sx_law_told ns)) (fun _ _ => some (false, .str c8)) (smCall (F_read_paper ns) (saCons (smV 4) saNil))) (smTup (saCons (smC (.int 1)) (saCons (smV 5) saNil)))) (ssRet (smC (.bl false))) ssNil)))
  (ssSeq (ssAsgT (asT' (asCons (asN 6) (asCons (asN 7) asNil))) (smTup (saCons (smCall (F_law_pick ns) (saCons (smV 1) (saCons (smLst (saCons (smC .non) (saCons (smC (.int 5)) (saCons (smLst (saCons (smC (.str c29)) saNil)) (saCons (smTup (saCons (smC (.str c5)) saNil)) saNil))))) saNil))) (saCons (smLstS saNil) saNil))))
  (ssSeq (ssFor (asN 8) (smIt (smLst (saCons (smC (.fn 38)) (saCons (smC (.fn 41)) (saCons (smC (.fn 44)) (saCons (smC (.fn 48)) saNil)))))) (ssExpr (smMut mAppend 7 (saCons (smTold 3 1 (guardX 7 (sx_law_told ns)) (fun _ _ => some (false, .str c8)) (smCallV (tab_law ns) 8 (saCons (smV 6) saNil))) saNil))))
  (ssSeq (ssExpr (smMut mAppend 7 (saCons (smTold 3 1 (guardX 7 (sx_law_told ns)) (fun _ _ => some (false, .str c8)) (smCall (F_write_plan ns) (saCons (smCall (F_law_pick ns) (saCons (smV 1) (saCons (smLst (saCons (smC .non) (saCons (smTup (saCons (smC (.str c4)) saNil)) (saCons (smTup (saCons (smC (.str c2)) (saCons (smTup (saCons (smC (.str c4)) (saCons (smC (.int 0)) saNil))) (saCons (smTup (saCons (smC (.str c3)) (saCons (smC (.int 0)) saNil))) saNil)))) (saCons (smC (.str c29)) saNil))))) saNil))) saNil))) saNil)))
  (ssSeq (ssExpr (smMut mAppend 7 (saCons (smTold 3 1 (guardX 7 (sx_law_told ns)) (fun _ _ => some (false, .str c8)) (smCall (F_write_row ns) (saCons (smTup (saCons (smTup (saCons (smC (.str c4)) (saCons (smC (.int 0)) saNil))) (saCons (smTup (saCons (smC (.str c28)) (saCons (smC (.int 0)) saNil))) saNil))) saNil))) saNil)))
  (ssSeq (ssExpr (smMut mAppend 7 (saCons (smTold 3 1 (guardX 7 (sx_law_told ns)) (fun _ _ => some (false, .str c8)) (smCall (F_write_log ns) (saCons (smTup (saCons (smTup (saCons (smC (.str c15)) (saCons (smC (.int 12)) saNil))) saNil)) saNil))) saNil)))
  (ssSeq (ssExpr (smMut mAppend 7 (saCons (smTold 3 1 (guardX 7 (sx_law_told ns)) (fun _ _ => some (false, .str c8)) (smCall (F_write_paper ns) (saCons (smTup (saCons (smTup (saCons (smTup (saCons (smC (.int 0)) saNil)) (saCons (smC (.str c27)) saNil))) (saCons (smTup (saCons (smTup saNil) (saCons (smC (.str c26)) saNil))) saNil))) saNil))) saNil)))
  (ssRet (smPkL pEq 7 (smLst (saCons (smC (.str c24)) (saCons (smC (.str c24)) (saCons (smC (.str c24)) (saCons (smC (.str c24)) (saCons (smC (.str c23)) (saCons (smC (.str c22)) (saCons (smC (.str c21)) (saCons (smC (.str c20)) saNil))))))))))))))))))))))))))))))))
def F_law (ns : List Int) : Fs := runB 1 9 (sm_law ns)
theorem okF_law {S : Sg} {mg : Str → Option Value} {base : Heap} (G : Gx S mg base) {fad : Addr} {fd : FuncData} (hx : mg "law" = some (.ref fad)) (F : FunD S.K "law" "law" (C8.fnArgs (topS 58)) (C8.fnBody (topS 58)) (C8.fnScope (topS 58)) [] [] fad fd) : FnOk S.P S.w S.K mg base (CX S.P S.w) 52 fad fd ["_law_script"] (spF S 1 (F_law S.ns)) := by
  have nd := nd_law
  refine fn_okC (N := N_law) (k := 51) (sm := sm_law S.ns) F sc_law fun cdv A outer s H E hci hr => ?_
  obtain ⟨cc, PP, rfl, TB, hT⟩ := G.tb fad cdv hx hci
  exact (ss_cons (s_set 1 nd (se_lstS (a_cons (e_var 0) (a_cons e_int (a_cons e_int (a_cons e_int sa_nil))))))
  (ss_cons (s_set 2 nd (se_lst (a_cons (se_tup (a_cons (e_str c8_eq) (a_cons e_int sa_nil))) (a_cons (se_tup (a_cons (e_str c76_eq) (a_cons e_int sa_nil))) (a_cons (se_tup (a_cons (e_str c2_eq) (a_cons e_int sa_nil))) (a_cons (se_tup (a_cons (e_str c75_eq) (a_cons e_int sa_nil))) (a_cons (se_tup (a_cons (e_str c74_eq) (a_cons e_int sa_nil))) (a_cons (se_tup (a_cons (e_str c73_eq) (a_cons e_int sa_nil))) (a_cons (se_tup (a_cons (e_str c72_eq) (a_cons e_int sa_nil))) (a_cons (se_tup (a_cons (e_str c71_eq) (a_cons e_int sa_nil))) sa_nil))))))))))
  (ss_cons (s_set 2 nd (e_add rfl (e_var 2) (se_lst (a_cons (se_tup (a_cons (e_str c0_eq) (a_cons e_int sa_nil))) (a_cons (se_tup (a_cons (e_str c70_eq) (a_cons e_int sa_nil))) (a_cons (se_tup (a_cons (e_str c69_eq) (a_cons e_int sa_nil))) (a_cons (se_tup (a_cons (e_str c68_eq) (a_cons e_int sa_nil))) sa_nil)))))))
  (ss_cons (s_set 2 nd (e_add rfl (e_var 2) (se_lst (a_cons (se_tup (a_cons (e_str c67_eq) (a_cons e_int sa_nil))) (a_cons (se_tup (a_cons (e_str c66_eq) (a_cons e_int sa_nil))) (a_cons (se_tup (a_cons (e_add rfl (e_mul rfl (e_str c65_eq) e_int) (e_str c29_eq)) (a_cons e_int sa_nil))) (a_cons (se_tup (a_cons (e_str c64_eq) (a_cons e_int sa_nil))) (a_cons (se_tup (a_cons (e_str c63_eq) (a_cons e_int sa_nil))) (a_cons (se_tup (a_cons (e_str c62_eq) (a_cons e_int sa_nil))) sa_nil)))))))))
  (ss_cons (s_set 2 nd (e_add rfl (e_var 2) (se_lst (a_cons (se_tup (a_cons (e_str c61_eq) (a_cons e_int sa_nil))) (a_cons (se_tup (a_cons (e_add rfl (e_str c60_eq) (e_mul rfl (e_str c58_eq) e_int)) (a_cons e_int sa_nil))) sa_nil)))))
  (ss_cons (s_set 2 nd (e_add rfl (e_var 2) (se_lst (a_cons (se_tup (a_cons (e_add rfl (e_add rfl (e_add rfl (e_str c57_eq) (e_mul rfl (e_str c58_eq) e_int)) (e_str c59_eq)) (e_mul rfl (e_str c58_eq) e_int)) (a_cons e_int sa_nil))) (a_cons (se_tup (a_cons (e_str c56_eq) (a_cons e_int sa_nil))) sa_nil)))))
  (ss_cons (s_for po_body (i_range1 G.b_range (a_cons e_int sa_nil)) (g_name 3 nd) (ss_cons (s_asgT (e_call (ok_law_pick G) (by omega) hr tk_body (a_cons (e_var 1) (a_cons (e_var 2) sa_nil))) (g_any rfl (g_cons (g_name 4 nd) ((g_cons (g_name 5 nd) (sg_nil (ix := []))))) (asCons_len (asCons_len asNil_len))))
  (ss_one (ss_if (t_cmp (c_ne rfl (hu_room hr)) (e_told (told_law_told G hr) (fun h k r p q => qaA h k r p q) (fun y M' h => guard_lt y M' h) TB rfl hT hr (by omega) (fun A outer s H E g c' hr => (e_call (ok_read_plan G) (by omega) hr tk_lam (a_cons (e_var 4) sa_nil)))) (se_tup (a_cons e_int (a_cons (e_var 5) sa_nil)))) (ss_one (ss_ret e_bl)) ss_nil))))
  (ss_cons (s_set 2 nd (se_lst (a_cons (se_tup (a_cons (e_str c55_eq) (a_cons e_int sa_nil))) (a_cons (se_tup (a_cons (e_str c54_eq) (a_cons e_int sa_nil))) (a_cons (se_tup (a_cons (e_str c53_eq) (a_cons e_int sa_nil))) (a_cons (se_tup (a_cons (e_str c13_eq) (a_cons e_int sa_nil))) (a_cons (se_tup (a_cons (e_str c52_eq) (a_cons e_int sa_nil))) (a_cons (se_tup (a_cons (e_add rfl (e_mul rfl (e_str c51_eq) e_int) (e_str c29_eq)) (a_cons e_int sa_nil))) (a_cons (se_tup (a_cons (e_str c50_eq) (a_cons e_int sa_nil))) (a_cons (se_tup (a_cons (e_str c49_eq) (a_cons e_int sa_nil))) sa_nil))))))))))
  (ss_cons (s_for po_body (i_range1 G.b_range (a_cons e_int sa_nil)) (g_name 3 nd) (ss_cons (s_asgT (e_call (ok_law_pick G) (by omega) hr tk_body (a_cons (e_var 1) (a_cons (e_var 2) sa_nil))) (g_any rfl (g_cons (g_name 4 nd) ((g_cons (g_name 5 nd) (sg_nil (ix := []))))) (asCons_len (asCons_len asNil_len))))
  (ss_one (ss_if (t_cmp (c_ne rfl (hu_room hr)) (e_told (told_law_told G hr) (fun h k r p q => qaA h k r p q) (fun y M' h => guard_lt y M' h) TB rfl hT hr (by omega) (fun A outer s H E g c' hr => (e_call (ok_read_row G) (by omega) hr tk_lam (a_cons (e_var 4) sa_nil)))) (se_tup (a_cons e_int (a_cons (e_var 5) sa_nil)))) (ss_one (ss_ret e_bl)) ss_nil))))
  (ss_cons (s_set 2 nd (se_lst (a_cons (se_tup (a_cons (e_str c15_eq) (a_cons e_int sa_nil))) (a_cons (se_tup (a_cons (e_str c48_eq) (a_cons e_int sa_nil))) (a_cons (se_tup (a_cons (e_str c47_eq) (a_cons e_int sa_nil))) (a_cons (se_tup (a_cons (e_str c46_eq) (a_cons e_int sa_nil))) (a_cons (se_tup (a_cons (e_str c45_eq) (a_cons e_int sa_nil))) (a_cons (se_tup (a_cons (e_str c44_eq) (a_cons e_int sa_nil))) (a_cons (se_tup (a_cons (e_str c43_eq) (a_cons e_int sa_nil))) sa_nil)))))))))
  (ss_cons (s_set 2 nd (e_add rfl (e_var 2) (se_lst (a_cons (se_tup (a_cons (e_str c42_eq) (a_cons e_int sa_nil))) (a_cons (se_tup (a_cons (e_add rfl (e_mul rfl (e_str c41_eq) e_int) (e_str c6_eq)) (a_cons e_int sa_nil))) (a_cons (se_tup (a_cons (e_str c40_eq) (a_cons e_int sa_nil))) sa_nil))))))
  (ss_cons (s_for po_body (i_range1 G.b_range (a_cons e_int sa_nil)) (g_name 3 nd) (ss_cons (s_asgT (e_call (ok_law_pick G) (by omega) hr tk_body (a_cons (e_var 1) (a_cons (e_var 2) sa_nil))) (g_any rfl (g_cons (g_name 4 nd) ((g_cons (g_name 5 nd) (sg_nil (ix := []))))) (asCons_len (asCons_len asNil_len))))
  (ss_one (ss_if (t_cmp (c_ne rfl (hu_room hr)) (e_told (told_law_told G hr) (fun h k r p q => qaA h k r p q) (fun y M' h => guard_lt y M' h) TB rfl hT hr (by omega) (fun A outer s H E g c' hr => (e_call (ok_read_log_text G) (by omega) hr tk_lam (a_cons (e_var 4) sa_nil)))) (se_tup (a_cons e_int (a_cons (e_var 5) sa_nil)))) (ss_one (ss_ret e_bl)) ss_nil))))
  (ss_cons (s_set 2 nd (se_lst (a_cons (se_tup (a_cons (e_str c27_eq) (a_cons e_int sa_nil))) (a_cons (se_tup (a_cons (e_str c39_eq) (a_cons e_int sa_nil))) (a_cons (se_tup (a_cons (e_str c38_eq) (a_cons e_int sa_nil))) (a_cons (se_tup (a_cons (e_str c37_eq) (a_cons e_int sa_nil))) (a_cons (se_tup (a_cons (e_str c36_eq) (a_cons e_int sa_nil))) (a_cons (se_tup (a_cons (e_str c35_eq) (a_cons e_int sa_nil))) (a_cons (se_tup (a_cons (e_str c34_eq) (a_cons e_int sa_nil))) sa_nil)))))))))
  (ss_cons (s_set 2 nd (e_add rfl (e_var 2) (se_lst (a_cons (se_tup (a_cons (e_str c33_eq) (a_cons e_int sa_nil))) (a_cons (se_tup (a_cons (e_str c32_eq) (a_cons e_int sa_nil))) (a_cons (se_tup (a_cons (e_add rfl (e_mul rfl (e_str c30_eq) e_int) (e_str c31_eq)) (a_cons e_int sa_nil))) sa_nil))))))
  (ss_cons (s_for po_body (i_range1 G.b_range (a_cons e_int sa_nil)) (g_name 3 nd) (ss_cons (s_asgT (e_call (ok_law_pick G) (by omega) hr tk_body (a_cons (e_var 1) (a_cons (e_var 2) sa_nil))) (g_any rfl (g_cons (g_name 4 nd) ((g_cons (g_name 5 nd) (sg_nil (ix := []))))) (asCons_len (asCons_len asNil_len))))
  (ss_one (ss_if (t_cmp (c_ne rfl (hu_room hr)) (e_told (told_law_told G hr) (fun h k r p q => qaA h k r p q) (fun y M' h => guard_lt y M' h) TB rfl hT hr (by omega) (fun A outer s H E g c' hr => (e_call (ok_read_paper G) (by omega) hr tk_lam (a_cons (e_var 4) sa_nil)))) (se_tup (a_cons e_int (a_cons (e_var 5) sa_nil)))) (ss_one (ss_ret e_bl)) ss_nil))))
  (ss_cons (s_asgT (se_tup (a_cons (e_call (ok_law_pick G) (by omega) hr tk_body (a_cons (e_var 1) (a_cons (se_lst (a_cons e_non (a_cons e_int (a_cons (se_lst (a_cons (e_str c29_eq) sa_nil)) (a_cons (se_tup (a_cons (e_str c5_eq) sa_nil)) sa_nil))))) sa_nil))) (a_cons (se_lstS sa_nil) sa_nil))) (g_any rfl (g_cons (g_name 6 nd) ((g_cons (g_name 7 nd) (sg_nil (ix := []))))) (asCons_len (asCons_len asNil_len))))
  (ss_cons (s_for po_body (si_any rfl (se_lst (a_cons (e_gdat G.f_read_plan) (a_cons (e_gdat G.f_read_row) (a_cons (e_gdat G.f_read_log_text) (a_cons (e_gdat G.f_read_paper) sa_nil)))))) (g_name 8 nd) (ss_one (s_expr (e_append 7 (a_cons (e_told (told_law_told G hr) (fun h k r p q => qaA h k r p q) (fun y M' h => guard_lt y M' h) TB rfl hT hr (by omega) (fun A outer s H E g c' hr => (e_callV (tabok_law G) (by omega) hr tk_lam (a_cons (e_var 6) sa_nil)))) sa_nil)))))
  (ss_cons (s_expr (e_append 7 (a_cons (e_told (told_law_told G hr) (fun h k r p q => qaA h k r p q) (fun y M' h => guard_lt y M' h) TB rfl hT hr (by omega) (fun A outer s H E g c' hr => (e_call (ok_write_plan G) (by omega) hr tk_lam (a_cons (e_call (ok_law_pick G) (by omega) hr tk_lam (a_cons (e_var 1) (a_cons (se_lst (a_cons e_non (a_cons (se_tup (a_cons (e_str c4_eq) sa_nil)) (a_cons (se_tup (a_cons (e_str c2_eq) (a_cons (se_tup (a_cons (e_str c4_eq) (a_cons e_int sa_nil))) (a_cons (se_tup (a_cons (e_str c3_eq) (a_cons e_int sa_nil))) sa_nil)))) (a_cons (e_str c29_eq) sa_nil))))) sa_nil))) sa_nil)))) sa_nil)))
  (ss_cons (s_expr (e_append 7 (a_cons (e_told (told_law_told G hr) (fun h k r p q => qaA h k r p q) (fun y M' h => guard_lt y M' h) TB rfl hT hr (by omega) (fun A outer s H E g c' hr => (e_call (ok_write_row G) (by omega) hr tk_lam (a_cons (se_tup (a_cons (se_tup (a_cons (e_str c4_eq) (a_cons e_int sa_nil))) (a_cons (se_tup (a_cons (e_str c28_eq) (a_cons e_int sa_nil))) sa_nil))) sa_nil)))) sa_nil)))
  (ss_cons (s_expr (e_append 7 (a_cons (e_told (told_law_told G hr) (fun h k r p q => qaA h k r p q) (fun y M' h => guard_lt y M' h) TB rfl hT hr (by omega) (fun A outer s H E g c' hr => (e_call (ok_write_log G) (by omega) hr tk_lam (a_cons (se_tup (a_cons (se_tup (a_cons (e_str c15_eq) (a_cons e_int sa_nil))) sa_nil)) sa_nil)))) sa_nil)))
  (ss_cons (s_expr (e_append 7 (a_cons (e_told (told_law_told G hr) (fun h k r p q => qaA h k r p q) (fun y M' h => guard_lt y M' h) TB rfl hT hr (by omega) (fun A outer s H E g c' hr => (e_call (ok_write_paper G) (by omega) hr tk_lam (a_cons (se_tup (a_cons (se_tup (a_cons (se_tup (a_cons e_int sa_nil)) (a_cons (e_str c27_eq) sa_nil))) (a_cons (se_tup (a_cons (se_tup sa_nil) (a_cons (e_str c26_eq) sa_nil))) sa_nil))) sa_nil)))) sa_nil)))
  (ss_one (ss_ret (e_cmpL 7 (c_eq rfl (hu_room hr)) (se_lst (a_cons (e_str c24_eq) (a_cons (e_str c24_eq) (a_cons (e_str c24_eq) (a_cons (e_str c24_eq) (a_cons (e_str c23_eq) (a_cons (e_str c22_eq) (a_cons (e_str c21_eq) (a_cons (e_str c20_eq) sa_nil)))))))))))))))))))))))))))))))))
end LW

namespace LW
open PySem PySem.Spec PySem.Calls PyProof.Rows L2 EV
/-! the head -/
def clsS (i j : Nat) : Stmt := (C8.clsBody (topS i)).getD j (.Pass ⟨0, 0, 0, 0⟩)
def exN : List Str := [Str.ofString "ScopeError", Str.ofString "BadPlan", Str.ofString "BadRow", Str.ofString "BadPaper", Str.ofString "BadLog", Str.ofString "NotText", Str.ofString "InvalidText"]
def fnN : List Str := [Str.ofString "is_integer", Str.ofString "is_in", Str.ofString "is_list", Str.ofString "is_plan", Str.ofString "parts_of", Str.ofString "leaves_in", Str.ofString "words_in", Str.ofString "need_plan", Str.ofString "need_row", Str.ofString "need_log", Str.ofString "need_paper", Str.ofString "need_text", Str.ofString "words_of", Str.ofString "number_of", Str.ofString "plan_words", Str.ofString "write_plan", Str.ofString "head_of", Str.ofString "plan_at", Str.ofString "read_plan", Str.ofString "write_row", Str.ofString "label_of", Str.ofString "read_row", Str.ofString "write_log", Str.ofString "entry_of", Str.ofString "read_log_text", Str.ofString "place_text", Str.ofString "write_paper", Str.ofString "step_of", Str.ofString "read_paper", Str.ofString "_law_taken", Str.ofString "_law_pick", Str.ofString "_law_told", Str.ofString "law"]
def fn : List He.DefD := [
  ⟨("is_integer", none), "is_integer", "is_integer", C8.fnArgs (topS 9), C8.fnBody (topS 9), C8.fnScope (topS 9), [], []⟩,
  ⟨("is_in", none), "is_in", "is_in", C8.fnArgs (topS 10), C8.fnBody (topS 10), C8.fnScope (topS 10), [], []⟩,
  ⟨("is_list", none), "is_list", "is_list", C8.fnArgs (topS 11), C8.fnBody (topS 11), C8.fnScope (topS 11), [], []⟩,
  ⟨("is_plan", none), "is_plan", "is_plan", C8.fnArgs (topS 16), C8.fnBody (topS 16), C8.fnScope (topS 16), [], []⟩,
  ⟨("parts_of", none), "parts_of", "parts_of", C8.fnArgs (topS 17), C8.fnBody (topS 17), C8.fnScope (topS 17), [], []⟩,
  ⟨("leaves_in", none), "leaves_in", "leaves_in", C8.fnArgs (topS 18), C8.fnBody (topS 18), C8.fnScope (topS 18), [], []⟩,
  ⟨("words_in", none), "words_in", "words_in", C8.fnArgs (topS 19), C8.fnBody (topS 19), C8.fnScope (topS 19), [], []⟩,
  ⟨("need_plan", none), "need_plan", "need_plan", C8.fnArgs (topS 20), C8.fnBody (topS 20), C8.fnScope (topS 20), [], []⟩,
  ⟨("need_row", none), "need_row", "need_row", C8.fnArgs (topS 24), C8.fnBody (topS 24), C8.fnScope (topS 24), [], []⟩,
  ⟨("need_log", none), "need_log", "need_log", C8.fnArgs (topS 28), C8.fnBody (topS 28), C8.fnScope (topS 28), [], []⟩,
  ⟨("need_paper", none), "need_paper", "need_paper", C8.fnArgs (topS 32), C8.fnBody (topS 32), C8.fnScope (topS 32), [], []⟩,
  ⟨("need_text", none), "need_text", "need_text", C8.fnArgs (topS 36), C8.fnBody (topS 36), C8.fnScope (topS 36), [], []⟩,
  ⟨("words_of", none), "words_of", "words_of", C8.fnArgs (topS 37), C8.fnBody (topS 37), C8.fnScope (topS 37), [], []⟩,
  ⟨("number_of", none), "number_of", "number_of", C8.fnArgs (topS 38), C8.fnBody (topS 38), C8.fnScope (topS 38), [], []⟩,
  ⟨("plan_words", none), "plan_words", "plan_words", C8.fnArgs (topS 39), C8.fnBody (topS 39), C8.fnScope (topS 39), [], []⟩,
  ⟨("write_plan", none), "write_plan", "write_plan", C8.fnArgs (topS 40), C8.fnBody (topS 40), C8.fnScope (topS 40), [], []⟩,
  ⟨("head_of", none), "head_of", "head_of", C8.fnArgs (topS 41), C8.fnBody (topS 41), C8.fnScope (topS 41), [], []⟩,
  ⟨("plan_at", none), "plan_at", "plan_at", C8.fnArgs (topS 42), C8.fnBody (topS 42), C8.fnScope (topS 42), [], []⟩,
  ⟨("read_plan", none), "read_plan", "read_plan", C8.fnArgs (topS 43), C8.fnBody (topS 43), C8.fnScope (topS 43), [], []⟩,
  ⟨("write_row", none), "write_row", "write_row", C8.fnArgs (topS 44), C8.fnBody (topS 44), C8.fnScope (topS 44), [], []⟩,
  ⟨("label_of", none), "label_of", "label_of", C8.fnArgs (topS 45), C8.fnBody (topS 45), C8.fnScope (topS 45), [], []⟩,
  ⟨("read_row", none), "read_row", "read_row", C8.fnArgs (topS 46), C8.fnBody (topS 46), C8.fnScope (topS 46), [], []⟩,
  ⟨("write_log", none), "write_log", "write_log", C8.fnArgs (topS 47), C8.fnBody (topS 47), C8.fnScope (topS 47), [], []⟩,
  ⟨("entry_of", none), "entry_of", "entry_of", C8.fnArgs (topS 48), C8.fnBody (topS 48), C8.fnScope (topS 48), [], []⟩,
  ⟨("read_log_text", none), "read_log_text", "read_log_text", C8.fnArgs (topS 49), C8.fnBody (topS 49), C8.fnScope (topS 49), [], []⟩,
  ⟨("place_text", none), "place_text", "place_text", C8.fnArgs (topS 50), C8.fnBody (topS 50), C8.fnScope (topS 50), [], []⟩,
  ⟨("write_paper", none), "write_paper", "write_paper", C8.fnArgs (topS 51), C8.fnBody (topS 51), C8.fnScope (topS 51), [], []⟩,
  ⟨("step_of", none), "step_of", "step_of", C8.fnArgs (topS 52), C8.fnBody (topS 52), C8.fnScope (topS 52), [], []⟩,
  ⟨("read_paper", none), "read_paper", "read_paper", C8.fnArgs (topS 53), C8.fnBody (topS 53), C8.fnScope (topS 53), [], []⟩,
  ⟨("_law_taken", none), "_law_taken", "_law_taken", C8.fnArgs (topS 55), C8.fnBody (topS 55), C8.fnScope (topS 55), [], []⟩,
  ⟨("_law_pick", none), "_law_pick", "_law_pick", C8.fnArgs (topS 56), C8.fnBody (topS 56), C8.fnScope (topS 56), [], []⟩,
  ⟨("_law_told", none), "_law_told", "_law_told", C8.fnArgs (topS 57), C8.fnBody (topS 57), C8.fnScope (topS 57), [], []⟩,
  ⟨("law", none), "law", "law", C8.fnArgs (topS 58), C8.fnBody (topS 58), C8.fnScope (topS 58), [], []⟩]
def i_BadRow : IniD := ⟨"BadRow", "BadRow.__init__", C8.fnArgs (clsS 3 0), C8.fnBody (clsS 3 0), C8.fnScope (clsS 3 0)⟩
def i_BadLog : IniD := ⟨"BadLog", "BadLog.__init__", C8.fnArgs (clsS 5 0), C8.fnBody (clsS 5 0), C8.fnScope (clsS 5 0)⟩
def i_BadPaper : IniD := ⟨"BadPaper", "BadPaper.__init__", C8.fnArgs (clsS 4 0), C8.fnBody (clsS 4 0), C8.fnScope (clsS 4 0)⟩
def i_InvalidText : IniD := ⟨"InvalidText", "InvalidText.__init__", C8.fnArgs (clsS 7 0), C8.fnBody (clsS 7 0), C8.fnScope (clsS 7 0)⟩
def ini : List IniD := [i_BadRow, i_BadLog, i_BadPaper, i_InvalidText]
def fa : List He.Fa := [.glo "is_integer", .glo "is_in", .glo "is_list", .glo "is_plan", .glo "parts_of", .glo "leaves_in", .glo "words_in", .glo "need_plan", .glo "need_row", .glo "need_log", .glo "need_paper", .glo "need_text", .glo "words_of", .glo "number_of", .glo "plan_words", .glo "write_plan", .glo "head_of", .glo "plan_at", .glo "read_plan", .glo "write_row", .glo "label_of", .glo "read_row", .glo "write_log", .glo "entry_of", .glo "read_log_text", .glo "place_text", .glo "write_paper", .glo "step_of", .glo "read_paper", .glo "_law_taken", .glo "_law_pick", .glo "_law_told", .glo "law", .free "bool", .free "isinstance", .free "int", .free "len", .free "tuple", .free "all", .int "MOST_WORDS" 12, .free "str", .free "set", .glo "BadPlan", .exc "BadPlan", .int "MOST_DEEP" 40, .free "enumerate", .free "super", .glo "BadRow", .int "MOST_ROW" 40, .glo "BadLog", .int "MOST_LOG" 60, .glo "BadPaper", .int "MOST_STEPS" 1000, .glo "NotText", .exc "NotText", .str "FIGURES" c9, .str "WORDS" c10, .free "range", .glo "InvalidText", .glo "ScopeError"]
def exL (K : PySem.W.Frag) : List Bool := [gdB K "REST" k_REST,
  iniB K PySem.Challenge.pw_undoscopes_k14_texts_refused.main.file "BadRow" "BadRow.__init__" ["index"],
  gdB K "KINDS" k_KINDS,
  iniB K PySem.Challenge.pw_undoscopes_k14_texts_refused.main.file "BadLog" "BadLog.__init__" ["index"],
  gdB K "ENTRIES" k_ENTRIES,
  gdB K "RULES" k_RULES,
  iniB K PySem.Challenge.pw_undoscopes_k14_texts_refused.main.file "BadPaper" "BadPaper.__init__" ["index"],
  iniB K PySem.Challenge.pw_undoscopes_k14_texts_refused.main.file "InvalidText" "InvalidText.__init__" ["line", "word"],
  etB K exN ["index", "line", "word"]]
def tf : List He.Defn := [("law", none)]
def loose0 : List Str := [Str.ofString "ScopeError", Str.ofString "BadPlan", Str.ofString "BadRow", Str.ofString "BadPaper", Str.ofString "BadLog", Str.ofString "NotText", Str.ofString "InvalidText", Str.ofString "is_integer", Str.ofString "is_in", Str.ofString "is_list", Str.ofString "MOST_WORDS", Str.ofString "MOST_DEEP", Str.ofString "REST", Str.ofString "is_plan", Str.ofString "parts_of", Str.ofString "leaves_in", Str.ofString "words_in", Str.ofString "need_plan", Str.ofString "MOST_ROW", Str.ofString "KINDS", Str.ofString "need_row", Str.ofString "MOST_LOG", Str.ofString "ENTRIES", Str.ofString "need_log", Str.ofString "RULES", Str.ofString "MOST_STEPS", Str.ofString "need_paper", Str.ofString "WORDS", Str.ofString "FIGURES", Str.ofString "need_text", Str.ofString "words_of", Str.ofString "number_of", Str.ofString "plan_words", Str.ofString "write_plan", Str.ofString "head_of"]
def loose1 : List Str := [Str.ofString "plan_at", Str.ofString "read_plan", Str.ofString "write_row", Str.ofString "label_of", Str.ofString "read_row", Str.ofString "write_log", Str.ofString "entry_of", Str.ofString "read_log_text", Str.ofString "place_text", Str.ofString "write_paper", Str.ofString "step_of", Str.ofString "read_paper", Str.ofString "_law_taken", Str.ofString "_law_pick", Str.ofString "_law_told"]
abbrev loose : List Str := loose0 ++ loose1
abbrev R : PySem.W.OpenRow := PySem.W.OpenLaw.row PySem.Challenge.rw_undoscopes_k14_texts_refused
def LAWAT : Nat := 58
abbrev hk : PySem.W.Hook := hookI 5 fa fn ini tf (fun K => (exL K).all id)
def ob (s : PySem.W.SharedT) : AlI := obsI 5 fa fn ini tf (fun K => (exL K).all id) (HandSHeadRun.getT s)
theorem ob_eq (s : PySem.W.SharedT) : ob s = hk.obs s.abs := obsI_eq (HandSHeadRun.getT_eq s)
theorem run (w : World) : HandSHeadRun.RunEq R (PySem.W.view R.prog [LAWAT]) hk ob 6000 loose w := by
  intro os
  kernel_rfl
end LW

namespace LW
open PySem PySem.Spec PySem.Calls PyProof.Rows L2 EV
def SS (w : World) (K : PySem.W.Frag) (a : Addr) (ns : List Int) : Sg := { P := PySem.Challenge.pw_undoscopes_k14_texts_refused, w := w, K := K, fa := faOf K exN fnN, sa := a, ns := ns, T := [((He.cT K ("law", none)).2, ("law.<locals>." : Str) ++ ("<lambda>" : Str))], xp := none }
theorem gx {w : World} {K : PySem.W.Frag} {h : Heap} {mg : Str → Option Value} {base : Heap} (X : K.In h) (G : h.Ns mainGlobals mg) (c : SaysI fa fn ini tf (fun K => (exL K).all id) w h K) (a : Addr) (ns : List Int) (hTB : ∀ p ∈ [He.cT K ("law", none)], LamX.TabB base mg p.1 p.2) : Gx (SS w K a ns) mg base where
    d_is_integer := (c.x.t.d.def_ 0 rfl).elim fun fd F => ⟨_, fd, He.glo_ok X G (c.x.t.d.fact 0 rfl), F⟩
    d_is_in := (c.x.t.d.def_ 1 rfl).elim fun fd F => ⟨_, fd, He.glo_ok X G (c.x.t.d.fact 1 rfl), F⟩
    d_is_list := (c.x.t.d.def_ 2 rfl).elim fun fd F => ⟨_, fd, He.glo_ok X G (c.x.t.d.fact 2 rfl), F⟩
    d_is_plan := (c.x.t.d.def_ 3 rfl).elim fun fd F => ⟨_, fd, He.glo_ok X G (c.x.t.d.fact 3 rfl), F⟩
    d_parts_of := (c.x.t.d.def_ 4 rfl).elim fun fd F => ⟨_, fd, He.glo_ok X G (c.x.t.d.fact 4 rfl), F⟩
    d_leaves_in := (c.x.t.d.def_ 5 rfl).elim fun fd F => ⟨_, fd, He.glo_ok X G (c.x.t.d.fact 5 rfl), F⟩
    d_words_in := (c.x.t.d.def_ 6 rfl).elim fun fd F => ⟨_, fd, He.glo_ok X G (c.x.t.d.fact 6 rfl), F⟩
    d_need_plan := (c.x.t.d.def_ 7 rfl).elim fun fd F => ⟨_, fd, He.glo_ok X G (c.x.t.d.fact 7 rfl), F⟩
    d_need_row := (c.x.t.d.def_ 8 rfl).elim fun fd F => ⟨_, fd, He.glo_ok X G (c.x.t.d.fact 8 rfl), F⟩
    d_need_log := (c.x.t.d.def_ 9 rfl).elim fun fd F => ⟨_, fd, He.glo_ok X G (c.x.t.d.fact 9 rfl), F⟩
    d_need_paper := (c.x.t.d.def_ 10 rfl).elim fun fd F => ⟨_, fd, He.glo_ok X G (c.x.t.d.fact 10 rfl), F⟩
    d_need_text := (c.x.t.d.def_ 11 rfl).elim fun fd F => ⟨_, fd, He.glo_ok X G (c.x.t.d.fact 11 rfl), F⟩
    d_words_of := (c.x.t.d.def_ 12 rfl).elim fun fd F => ⟨_, fd, He.glo_ok X G (c.x.t.d.fact 12 rfl), F⟩
    d_number_of := (c.x.t.d.def_ 13 rfl).elim fun fd F => ⟨_, fd, He.glo_ok X G (c.x.t.d.fact 13 rfl), F⟩
    d_plan_words := (c.x.t.d.def_ 14 rfl).elim fun fd F => ⟨_, fd, He.glo_ok X G (c.x.t.d.fact 14 rfl), F⟩
    d_write_plan := (c.x.t.d.def_ 15 rfl).elim fun fd F => ⟨_, fd, He.glo_ok X G (c.x.t.d.fact 15 rfl), F⟩
    d_head_of := (c.x.t.d.def_ 16 rfl).elim fun fd F => ⟨_, fd, He.glo_ok X G (c.x.t.d.fact 16 rfl), F⟩
    d_plan_at := (c.x.t.d.def_ 17 rfl).elim fun fd F => ⟨_, fd, He.glo_ok X G (c.x.t.d.fact 17 rfl), F⟩
    d_read_plan := (c.x.t.d.def_ 18 rfl).elim fun fd F => ⟨_, fd, He.glo_ok X G (c.x.t.d.fact 18 rfl), F⟩
    d_write_row := (c.x.t.d.def_ 19 rfl).elim fun fd F => ⟨_, fd, He.glo_ok X G (c.x.t.d.fact 19 rfl), F⟩
    d_label_of := (c.x.t.d.def_ 20 rfl).elim fun fd F => ⟨_, fd, He.glo_ok X G (c.x.t.d.fact 20 rfl), F⟩
    d_read_row := (c.x.t.d.def_ 21 rfl).elim fun fd F => ⟨_, fd, He.glo_ok X G (c.x.t.d.fact 21 rfl), F⟩
    d_write_log := (c.x.t.d.def_ 22 rfl).elim fun fd F => ⟨_, fd, He.glo_ok X G (c.x.t.d.fact 22 rfl), F⟩
    d_entry_of := (c.x.t.d.def_ 23 rfl).elim fun fd F => ⟨_, fd, He.glo_ok X G (c.x.t.d.fact 23 rfl), F⟩
    d_read_log_text := (c.x.t.d.def_ 24 rfl).elim fun fd F => ⟨_, fd, He.glo_ok X G (c.x.t.d.fact 24 rfl), F⟩
    d_place_text := (c.x.t.d.def_ 25 rfl).elim fun fd F => ⟨_, fd, He.glo_ok X G (c.x.t.d.fact 25 rfl), F⟩
    d_write_paper := (c.x.t.d.def_ 26 rfl).elim fun fd F => ⟨_, fd, He.glo_ok X G (c.x.t.d.fact 26 rfl), F⟩
    d_step_of := (c.x.t.d.def_ 27 rfl).elim fun fd F => ⟨_, fd, He.glo_ok X G (c.x.t.d.fact 27 rfl), F⟩
    d_read_paper := (c.x.t.d.def_ 28 rfl).elim fun fd F => ⟨_, fd, He.glo_ok X G (c.x.t.d.fact 28 rfl), F⟩
    d_law_taken := (c.x.t.d.def_ 29 rfl).elim fun fd F => ⟨_, fd, He.glo_ok X G (c.x.t.d.fact 29 rfl), F⟩
    d_law_pick := (c.x.t.d.def_ 30 rfl).elim fun fd F => ⟨_, fd, He.glo_ok X G (c.x.t.d.fact 30 rfl), F⟩
    d_law_told := (c.x.t.d.def_ 31 rfl).elim fun fd F => ⟨_, fd, He.glo_ok X G (c.x.t.d.fact 31 rfl), F⟩
    d_law := (c.x.t.d.def_ 32 rfl).elim fun fd F => ⟨_, fd, He.glo_ok X G (c.x.t.d.fact 32 rfl), F⟩
    b_bool := He.free_ok X G (c.x.t.d.fact 33 rfl)
    b_isinstance := He.free_ok X G (c.x.t.d.fact 34 rfl)
    b_int := He.free_ok X G (c.x.t.d.fact 35 rfl)
    b_len := He.free_ok X G (c.x.t.d.fact 36 rfl)
    b_tuple := He.free_ok X G (c.x.t.d.fact 37 rfl)
    b_all := He.free_ok X G (c.x.t.d.fact 38 rfl)
    i_MOST_WORDS := He.int_ok X G (c.x.t.d.fact 39 rfl)
    b_str := He.free_ok X G (c.x.t.d.fact 40 rfl)
    k_REST := gdB_ok X G (all_at c.x.more 0 rfl)
    b_set := He.free_ok X G (c.x.t.d.fact 41 rfl)
    r_BadPlan := ⟨⟨_, rfl, He.glo_ok X G (c.x.t.d.fact 42 rfl), (He.exc_ok (c.x.t.d.fact 43 rfl)).2.1, (He.exc_ok (c.x.t.d.fact 43 rfl)).1, (He.exc_ok (c.x.t.d.fact 43 rfl)).2.2.1, (He.exc_ok (c.x.t.d.fact 43 rfl)).2.2.2⟩⟩
    i_MOST_DEEP := He.int_ok X G (c.x.t.d.fact 44 rfl)
    b_enumerate := He.free_ok X G (c.x.t.d.fact 45 rfl)
    r_BadRow := xif1 (d := i_BadRow) rfl (He.glo_ok X G (c.x.t.d.fact 47 rfl)) (all_at c.x.more 1 rfl) rfl (c.ob 0 rfl) (He.free_ok X G (c.x.t.d.fact 46 rfl)) (by kernel_rfl) rfl rfl rfl rfl (by decide +kernel) rfl rfl rfl rfl (by decide) (by decide) (by decide) rfl rfl (fun _ _ _ _ => ⟨_, rfl⟩) (fun _ _ _ _ => rfl) (by intros; rfl)
    k_KINDS := gdB_ok X G (all_at c.x.more 2 rfl)
    i_MOST_ROW := He.int_ok X G (c.x.t.d.fact 48 rfl)
    r_BadLog := xif1 (d := i_BadLog) rfl (He.glo_ok X G (c.x.t.d.fact 49 rfl)) (all_at c.x.more 3 rfl) rfl (c.ob 1 rfl) (He.free_ok X G (c.x.t.d.fact 46 rfl)) (by kernel_rfl) rfl rfl rfl rfl (by decide +kernel) rfl rfl rfl rfl (by decide) (by decide) (by decide) rfl rfl (fun _ _ _ _ => ⟨_, rfl⟩) (fun _ _ _ _ => rfl) (by intros; rfl)
    k_ENTRIES := gdB_ok X G (all_at c.x.more 4 rfl)
    i_MOST_LOG := He.int_ok X G (c.x.t.d.fact 50 rfl)
    k_RULES := gdB_ok X G (all_at c.x.more 5 rfl)
    r_BadPaper := xif1 (d := i_BadPaper) rfl (He.glo_ok X G (c.x.t.d.fact 51 rfl)) (all_at c.x.more 6 rfl) rfl (c.ob 2 rfl) (He.free_ok X G (c.x.t.d.fact 46 rfl)) (by kernel_rfl) rfl rfl rfl rfl (by decide +kernel) rfl rfl rfl rfl (by decide) (by decide) (by decide) rfl rfl (fun _ _ _ _ => ⟨_, rfl⟩) (fun _ _ _ _ => rfl) (by intros; rfl)
    i_MOST_STEPS := He.int_ok X G (c.x.t.d.fact 52 rfl)
    r_NotText := ⟨⟨_, rfl, He.glo_ok X G (c.x.t.d.fact 53 rfl), (He.exc_ok (c.x.t.d.fact 54 rfl)).2.1, (He.exc_ok (c.x.t.d.fact 54 rfl)).1, (He.exc_ok (c.x.t.d.fact 54 rfl)).2.2.1, (He.exc_ok (c.x.t.d.fact 54 rfl)).2.2.2⟩⟩
    s_FIGURES := He.str_ok X G (c.x.t.d.fact 55 rfl)
    s_WORDS := He.str_ok X G (c.x.t.d.fact 56 rfl)
    b_range := He.free_ok X G (c.x.t.d.fact 57 rfl)
    r_InvalidText := xif2 (d := i_InvalidText) rfl (He.glo_ok X G (c.x.t.d.fact 58 rfl)) (all_at c.x.more 7 rfl) rfl (c.ob 3 rfl) (He.free_ok X G (c.x.t.d.fact 46 rfl)) (by kernel_rfl) rfl rfl rfl rfl (by decide +kernel) rfl rfl rfl rfl rfl (by decide) (by decide) (by decide) (by decide) (by decide) (by decide) rfl rfl (fun _ _ _ _ => ⟨_, rfl⟩) (fun _ _ _ _ => rfl) (by intros; rfl)
    e_BadPaper := ⟨_, rfl, He.glo_ok X G (c.x.t.d.fact 51 rfl)⟩
    e_BadLog := ⟨_, rfl, He.glo_ok X G (c.x.t.d.fact 49 rfl)⟩
    e_BadRow := ⟨_, rfl, He.glo_ok X G (c.x.t.d.fact 47 rfl)⟩
    e_BadPlan := ⟨_, rfl, He.glo_ok X G (c.x.t.d.fact 42 rfl)⟩
    e_NotText := ⟨_, rfl, He.glo_ok X G (c.x.t.d.fact 53 rfl)⟩
    e_InvalidText := ⟨_, rfl, He.glo_ok X G (c.x.t.d.fact 58 rfl)⟩
    e_ScopeError := ⟨_, rfl, He.glo_ok X G (c.x.t.d.fact 59 rfl)⟩
    f_read_paper := ⟨_, He.glo_ok X G (c.x.t.d.fact 28 rfl), ⟨.ref (He.ga K "read_paper"), rfl, fun W H => by simp only [Fz]; exact ⟨_, rfl, rfl⟩⟩⟩
    f_read_log_text := ⟨_, He.glo_ok X G (c.x.t.d.fact 24 rfl), ⟨.ref (He.ga K "read_log_text"), rfl, fun W H => by simp only [Fz]; exact ⟨_, rfl, rfl⟩⟩⟩
    f_read_row := ⟨_, He.glo_ok X G (c.x.t.d.fact 21 rfl), ⟨.ref (He.ga K "read_row"), rfl, fun W H => by simp only [Fz]; exact ⟨_, rfl, rfl⟩⟩⟩
    f_read_plan := ⟨_, He.glo_ok X G (c.x.t.d.fact 18 rfl), ⟨.ref (He.ga K "read_plan"), rfl, fun W H => by simp only [Fz]; exact ⟨_, rfl, rfl⟩⟩⟩
    et := etB_ok (ex := exN) (fns := fnN) (all_at c.x.more 8 rfl) rfl (by decide)
    xp := rfl
    tb := fun fad cdv hx hc => by
      obtain ⟨fd, F⟩ := c.x.t.d.def_ 32 (d := ⟨("law", none), "law", "law", C8.fnArgs (topS 58), C8.fnBody (topS 58), C8.fnScope (topS 58), [], []⟩) rfl
      exact ⟨_, _, tbOf hx (He.glo_ok X G (c.x.t.d.fact 32 rfl)) F hc, hTB _ List.mem_cons_self, rfl⟩
theorem lawat (plain : ∀ ns : List Int, ns.length ≤ 63 → (∀ z ∈ ns, Builtin.Int.intBits z ≤ 1048576) → ∃ M, F_law ns [.scr] [] = some (.ok false (.bl true), M)) (w : World) (mg : Str → Option Value) (fad : Addr) (h : Heap) (Y : hk.says w h) (G : h.Ns mainGlobals mg) (hmg : mg "law" = some (.ref fad)) :
    ∃ K : PySem.W.Frag, K.In h ∧ LamX.LawAtS PySem.Challenge.rw_undoscopes_k14_texts_refused w K (CX PySem.Challenge.pw_undoscopes_k14_texts_refused w) 52 63 "_law_script" mg fad h := by
  obtain ⟨K, X, c⟩ := Y
  refine ⟨K, X, ?_⟩
  obtain ⟨fd, F⟩ := c.x.t.d.def_ 32 (d := ⟨("law", none), "law", "law", C8.fnArgs (topS 58), C8.fnBody (topS 58), C8.fnScope (topS 58), [], []⟩) rfl
  have e := hmg.symm.trans (He.glo_ok X G (c.x.t.d.fact 32 rfl))
  cases e
  have b := FunD.bindsA (ps := ["_law_script"]) F fun _ _ _ _ _ _ us hl => match us, hl with | [_], _ => rfl
  have hp : ∀ p ∈ [He.cT K ("law", none)], p = He.cT K ("law", none) := fun p hp => List.mem_singleton.mp hp
  refine ⟨fd, [He.cT K ("law", none)], fun vs H Q E => ∃ i : Addr × List Int, (fun j : Addr × List Int => spF (SS w K j.1 j.2) 1 (F_law j.2)) i vs H Q E, fun p z => ?_, fun p z => ?_, fun p z => ?_, fun s v => b s [v] rfl, fun H a ns hl hb hT hS => ?_, fun base BX BG hTB => ?_⟩
  · rw [hp p z]; exact c.x.empty ("law", none) List.mem_cons_self
  · rw [hp p z]; exact c.x.out ("law", none) List.mem_cons_self
  · rw [hp p z]; exact PySem.W.codeHd_of_K X (c.x.hd ("law", none) List.mem_cons_self)
  · exact ⟨(a, ns), start_sp (S := SS w K a ns) (tabs_one (hT _ List.mem_cons_self)) hS (plain ns hl hb)⟩
  · exact fnok_ex (sp := fun j : Addr × List Int => spF (SS w K j.1 j.2) 1 (F_law j.2)) fun j => okF_law (S := SS w K j.1 j.2) (gx X G c j.1 j.2 hTB) hmg F
end LW

namespace LW
open PySem PySem.Spec PySem.Calls PyProof.Rows L2 EV
abbrev row (p g q : Int) : SO := .lst [.scr, .int p, .int g, .int q]
theorem taken_ok (ns : List Int) {p g q m : Int} {rest : Sto} (hp : 0 ≤ p) (hm : 0 < m) (hm2 : m ≤ 1000) :
    ∃ j p' g' q', 0 ≤ j ∧ j < m ∧ 0 ≤ p' ∧ F_law_taken ns [.rf 0, .int m] (row p g q :: rest) = some (.ok false (.int j), row p' g' q' :: rest) := by
  have m0 : m ≠ 0 := by omega
  have ms : small30 m = true := by unfold small30; simp; omega
  by_cases hq : 0 < q
  · refine ⟨q.fmod m, p, g, q.fdiv m, Int.fmod_nonneg_of_pos _ hm, Int.fmod_lt_of_pos _ hm, hp, ?_⟩
    refine runB_rt rfl (seq_rt (if_t rfl (decide_eq_true hq) (seq_nx (asg_ok (op2_ok rfl rfl (pMod_ok m0))) (seq_nx (put_ok (op2_ok rfl rfl (pDiv_ok m0 ms)) rfl rfl rfl) rfl))))
  · have hp1 : 0 ≤ p + 1 := by omega
    by_cases hl : (ns.length : Int) < p + 1
    · refine ⟨(((g * 48271 + 11).fmod 2147483647).fdiv 7).fmod m, p + 1, (g * 48271 + 11).fmod 2147483647, q, Int.fmod_nonneg_of_pos _ hm, Int.fmod_lt_of_pos _ hm, hp1, ?_⟩
      exact runB_rt rfl (seq_nx (if_f rfl (decide_eq_false hq) rfl) (seq_nx (put_ok rfl rfl rfl rfl) (seq_rt (if_t rfl (decide_eq_true hl) (seq_nx (put_ok (op2_ok (cb1_ok (op2_ok (op2_ok rfl rfl (pMul_ok rfl)) rfl rfl) rfl) rfl (pMod_ok (by decide))) rfl rfl rfl)
        (ret_ok (op2_ok (cb1_ok (op2_ok rfl rfl (pDiv_ok (by decide) rfl)) rfl) rfl (pMod_ok m0))))))))
    · obtain ⟨c, hc⟩ : ∃ c, atI ns (p + 1 - 1) = some c := by
        have e1 : p + 1 - 1 = p := by omega
        rw [e1]
        have hlt : p.toNat < ns.length := by omega
        refine ⟨ns[p.toNat], ?_⟩
        unfold L2.atI L2.ixN
        rw [if_pos hp, if_pos (by omega)]
        exact List.getElem?_eq_getElem hlt
      have hix : pIxS ns .scr (.int (p + 1 - 1)) = some (false, .int c) := by
        show (atI ns (p + 1 - 1)).map _ = _
        rw [hc]; rfl
      by_cases h18 : (10 : Int) ^ 18 ≤ c
      · refine ⟨c.fmod m, p + 1, (g * 48271 + c + 11).fmod 2147483647, c.fdiv m, Int.fmod_nonneg_of_pos _ hm, Int.fmod_lt_of_pos _ hm, hp1, ?_⟩
        exact runB_rt rfl (seq_nx (if_f rfl (decide_eq_false hq) rfl) (seq_nx (put_ok rfl rfl rfl rfl) (seq_nx (if_f rfl (decide_eq_false hl) rfl) (seq_nx (asg_ok (op2_ok rfl rfl hix)) (seq_nx (put_ok (op2_ok (cb1_ok (op2_ok (op2_ok (op2_ok rfl rfl (pMul_ok rfl)) rfl rfl) rfl rfl) rfl) rfl (pMod_ok (by decide))) rfl rfl rfl)
          (seq_nx (if_t rfl (decide_eq_true h18) (put_ok (op2_ok rfl rfl (pDiv_ok m0 ms)) rfl rfl rfl)) (ret_ok (op2_ok (cb1_ok rfl rfl) rfl (pMod_ok m0)))))))))
      · refine ⟨c.fmod m, p + 1, (g * 48271 + c + 11).fmod 2147483647, q, Int.fmod_nonneg_of_pos _ hm, Int.fmod_lt_of_pos _ hm, hp1, ?_⟩
        exact runB_rt rfl (seq_nx (if_f rfl (decide_eq_false hq) rfl) (seq_nx (put_ok rfl rfl rfl rfl) (seq_nx (if_f rfl (decide_eq_false hl) rfl) (seq_nx (asg_ok (op2_ok rfl rfl hix)) (seq_nx (put_ok (op2_ok (cb1_ok (op2_ok (op2_ok (op2_ok rfl rfl (pMul_ok rfl)) rfl rfl) rfl rfl) rfl) rfl (pMod_ok (by decide))) rfl rfl rfl)
          (seq_nx (if_f rfl (decide_eq_false h18) rfl) (ret_ok (op2_ok (cb1_ok rfl rfl) rfl (pMod_ok m0)))))))))
theorem pick_ok (ns : List Int) {p g q : Int} {rest : Sto} {xs : List D} (hp : 0 ≤ p) (h0 : 0 < xs.length) (h1 : xs.length ≤ 1000) :
    ∃ j p' g' q', ∃ hj : j < xs.length, 0 ≤ p' ∧ F_law_pick ns [.rf 0, .lst xs] (row p g q :: rest) = some (.ok false xs[j], row p' g' q' :: rest) := by
  obtain ⟨j, p', g', q', j0, j1, hp', ht⟩ := taken_ok ns (p := p) (g := g) (q := q) (m := (xs.length : Int)) (rest := rest) hp (by omega) (by omega)
  have hj : j.toNat < xs.length := by omega
  refine ⟨j.toNat, p', g', q', hj, hp', ?_⟩
  have hix : pIxS ns (.lst xs) (.int j) = some (false, xs[j.toNat]) := by
    show (atI xs j).map _ = _
    have e : atI xs j = some xs[j.toNat] := by
      unfold L2.atI L2.ixN
      rw [if_pos j0, if_pos j1]
      exact List.getElem?_eq_getElem hj
    rw [e]; rfl
  exact runB_rt rfl (ret_ok (op2_ok (o2 := false) rfl (call_ok rfl ht) hix))
def l0 (ns : List Int) : SmS := (ssAsg 1 (smLstS (saCons (smV 0) (saCons (smC (.int 0)) (saCons (smC (.int 10714)) (saCons (smC (.int 0)) saNil))))))
def l1 (ns : List Int) : SmS := (ssAsg 2 (smLst (saCons (smTup (saCons (smC (.str c8)) (saCons (smC (.int 1)) saNil))) (saCons (smTup (saCons (smC (.str c76)) (saCons (smC (.int 1)) saNil))) (saCons (smTup (saCons (smC (.str c2)) (saCons (smC (.int 1)) saNil))) (saCons (smTup (saCons (smC (.str c75)) (saCons (smC (.int 3)) saNil))) (saCons (smTup (saCons (smC (.str c74)) (saCons (smC (.int 1)) saNil))) (saCons (smTup (saCons (smC (.str c73)) (saCons (smC (.int 1)) saNil))) (saCons (smTup (saCons (smC (.str c72)) (saCons (smC (.int 1)) saNil))) (saCons (smTup (saCons (smC (.str c71)) (saCons (smC (.int 1)) saNil))) saNil))))))))))
def l2 (ns : List Int) : SmS := (ssAsg 2 (smOp2 pAdd (smV 2) (smLst (saCons (smTup (saCons (smC (.str c0)) (saCons (smC (.int 2)) saNil))) (saCons (smTup (saCons (smC (.str c70)) (saCons (smC (.int 2)) saNil))) (saCons (smTup (saCons (smC (.str c69)) (saCons (smC (.int 2)) saNil))) (saCons (smTup (saCons (smC (.str c68)) (saCons (smC (.int 3)) saNil))) saNil)))))))
def l3 (ns : List Int) : SmS := (ssAsg 2 (smOp2 pAdd (smV 2) (smLst (saCons (smTup (saCons (smC (.str c67)) (saCons (smC (.int 1)) saNil))) (saCons (smTup (saCons (smC (.str c66)) (saCons (smC (.int 4)) saNil))) (saCons (smTup (saCons (smOp2 pAdd (smOp2 pMul (smC (.str c65)) (smC (.int 40))) (smC (.str c29))) (saCons (smC (.int 41)) saNil))) (saCons (smTup (saCons (smC (.str c64)) (saCons (smC (.int 1)) saNil))) (saCons (smTup (saCons (smC (.str c63)) (saCons (smC (.int 3)) saNil))) (saCons (smTup (saCons (smC (.str c62)) (saCons (smC (.int 4)) saNil))) saNil)))))))))
def l4 (ns : List Int) : SmS := (ssAsg 2 (smOp2 pAdd (smV 2) (smLst (saCons (smTup (saCons (smC (.str c61)) (saCons (smC (.int 1)) saNil))) (saCons (smTup (saCons (smOp2 pAdd (smC (.str c60)) (smOp2 pMul (smC (.str c58)) (smC (.int 25)))) (saCons (smC (.int 1)) saNil))) saNil)))))
def l5 (ns : List Int) : SmS := (ssAsg 2 (smOp2 pAdd (smV 2) (smLst (saCons (smTup (saCons (smOp2 pAdd (smOp2 pAdd (smOp2 pAdd (smC (.str c57)) (smOp2 pMul (smC (.str c58)) (smC (.int 12)))) (smC (.str c59))) (smOp2 pMul (smC (.str c58)) (smC (.int 13)))) (saCons (smC (.int 28)) saNil))) (saCons (smTup (saCons (smC (.str c56)) (saCons (smC (.int 5)) saNil))) saNil)))))
def l6 (ns : List Int) : SmS := (ssFor (asN 3) (smRg rg1 (saCons (smC (.int 7)) saNil)) (ssSeq (ssAsgT (asT' (asCons (asN 4) (asCons (asN 5) asNil))) (smCall (F_law_pick ns) (saCons (smV 1) (saCons (smV 2) saNil))))
  (ssIf (smOp2 pNe (smTold 3 1 (guardX 7 (sx_law_told ns)) (fun _ _ => some (false, .str c8)) (smCall (F_read_plan ns) (saCons (smV 4) saNil))) (smTup (saCons (smC (.int 1)) (saCons (smV 5) saNil)))) (ssRet (smC (.bl false))) ssNil)))
def l7 (ns : List Int) : SmS := (ssAsg 2 (smLst (saCons (smTup (saCons (smC (.str c55)) (saCons (smC (.int 2)) saNil))) (saCons (smTup (saCons (smC (.str c54)) (saCons (smC (.int 1)) saNil))) (saCons (smTup (saCons (smC (.str c53)) (saCons (smC (.int 3)) saNil))) (saCons (smTup (saCons (smC (.str c13)) (saCons (smC (.int 1)) saNil))) (saCons (smTup (saCons (smC (.str c52)) (saCons (smC (.int 1)) saNil))) (saCons (smTup (saCons (smOp2 pAdd (smOp2 pMul (smC (.str c51)) (smC (.int 40))) (smC (.str c29))) (saCons (smC (.int 41)) saNil))) (saCons (smTup (saCons (smC (.str c50)) (saCons (smC (.int 2)) saNil))) (saCons (smTup (saCons (smC (.str c49)) (saCons (smC (.int 1)) saNil))) saNil))))))))))
def l8 (ns : List Int) : SmS := (ssFor (asN 3) (smRg rg1 (saCons (smC (.int 3)) saNil)) (ssSeq (ssAsgT (asT' (asCons (asN 4) (asCons (asN 5) asNil))) (smCall (F_law_pick ns) (saCons (smV 1) (saCons (smV 2) saNil))))
  (ssIf (smOp2 pNe (smTold 3 1 (guardX 7 (sx_law_told ns)) (fun _ _ => some (false, .str c8)) (smCall (F_read_row ns) (saCons (smV 4) saNil))) (smTup (saCons (smC (.int 1)) (saCons (smV 5) saNil)))) (ssRet (smC (.bl false))) ssNil)))
def l9 (ns : List Int) : SmS := (ssAsg 2 (smLst (saCons (smTup (saCons (smC (.str c15)) (saCons (smC (.int 1)) saNil))) (saCons (smTup (saCons (smC (.str c48)) (saCons (smC (.int 1)) saNil))) (saCons (smTup (saCons (smC (.str c47)) (saCons (smC (.int 1)) saNil))) (saCons (smTup (saCons (smC (.str c46)) (saCons (smC (.int 2)) saNil))) (saCons (smTup (saCons (smC (.str c45)) (saCons (smC (.int 1)) saNil))) (saCons (smTup (saCons (smC (.str c44)) (saCons (smC (.int 1)) saNil))) (saCons (smTup (saCons (smC (.str c43)) (saCons (smC (.int 1)) saNil))) saNil)))))))))
def l10 (ns : List Int) : SmS := (ssAsg 2 (smOp2 pAdd (smV 2) (smLst (saCons (smTup (saCons (smC (.str c42)) (saCons (smC (.int 1)) saNil))) (saCons (smTup (saCons (smOp2 pAdd (smOp2 pMul (smC (.str c41)) (smC (.int 60))) (smC (.str c6))) (saCons (smC (.int 61)) saNil))) (saCons (smTup (saCons (smC (.str c40)) (saCons (smC (.int 2)) saNil))) saNil))))))
def l11 (ns : List Int) : SmS := (ssFor (asN 3) (smRg rg1 (saCons (smC (.int 3)) saNil)) (ssSeq (ssAsgT (asT' (asCons (asN 4) (asCons (asN 5) asNil))) (smCall (F_law_pick ns) (saCons (smV 1) (saCons (smV 2) saNil))))
  (ssIf (smOp2 pNe (smTold 3 1 (guardX 7 (sx_law_told ns)) (fun _ _ => some (false, .str c8)) (smCall (F_read_log_text ns) (saCons (smV 4) saNil))) (smTup (saCons (smC (.int 1)) (saCons (smV 5) saNil)))) (ssRet (smC (.bl false))) ssNil)))
def l12 (ns : List Int) : SmS := (ssAsg 2 (smLst (saCons (smTup (saCons (smC (.str c27)) (saCons (smC (.int 1)) saNil))) (saCons (smTup (saCons (smC (.str c39)) (saCons (smC (.int 1)) saNil))) (saCons (smTup (saCons (smC (.str c38)) (saCons (smC (.int 1)) saNil))) (saCons (smTup (saCons (smC (.str c37)) (saCons (smC (.int 2)) saNil))) (saCons (smTup (saCons (smC (.str c36)) (saCons (smC (.int 1)) saNil))) (saCons (smTup (saCons (smC (.str c35)) (saCons (smC (.int 1)) saNil))) (saCons (smTup (saCons (smC (.str c34)) (saCons (smC (.int 2)) saNil))) saNil)))))))))
def l13 (ns : List Int) : SmS := (ssAsg 2 (smOp2 pAdd (smV 2) (smLst (saCons (smTup (saCons (smC (.str c33)) (saCons (smC (.int 1)) saNil))) (saCons (smTup (saCons (smC (.str c32)) (saCons (smC (.int 1)) saNil))) (saCons (smTup (saCons (smOp2 pAdd (smOp2 pMul (smC (.str c30)) (smC (.int 1000))) (smC (.str c31))) (saCons (smC (.int 1001)) saNil))) saNil))))))
def l14 (ns : List Int) : SmS := (ssFor (asN 3) (smRg rg1 (saCons (smC (.int 3)) saNil)) (ssSeq (ssAsgT (asT' (asCons (asN 4) (asCons (asN 5) asNil))) (smCall (F_law_pick ns) (saCons (smV 1) (saCons (smV 2) saNil))))
  (ssIf (smOp2 pNe (smTold 3 1 (guardX 7 (sx_law_told ns)) (fun _ _ => some (false, .str c8)) (smCall (F_read_paper ns) (saCons (smV 4) saNil))) (smTup (saCons (smC (.int 1)) (saCons (smV 5) saNil)))) (ssRet (smC (.bl false))) ssNil)))
def l15 (ns : List Int) : SmS := (ssAsgT (asT' (asCons (asN 6) (asCons (asN 7) asNil))) (smTup (saCons (smCall (F_law_pick ns) (saCons (smV 1) (saCons (smLst (saCons (smC .non) (saCons (smC (.int 5)) (saCons (smLst (saCons (smC (.str c29)) saNil)) (saCons (smTup (saCons (smC (.str c5)) saNil)) saNil))))) saNil))) (saCons (smLstS saNil) saNil))))
def l16 (ns : List Int) : SmS := (ssFor (asN 8) (smIt (smLst (saCons (smC (.fn 38)) (saCons (smC (.fn 41)) (saCons (smC (.fn 44)) (saCons (smC (.fn 48)) saNil)))))) (ssExpr (smMut mAppend 7 (saCons (smTold 3 1 (guardX 7 (sx_law_told ns)) (fun _ _ => some (false, .str c8)) (smCallV (tab_law ns) 8 (saCons (smV 6) saNil))) saNil))))
def l17 (ns : List Int) : SmS := (ssExpr (smMut mAppend 7 (saCons (smTold 3 1 (guardX 7 (sx_law_told ns)) (fun _ _ => some (false, .str c8)) (smCall (F_write_plan ns) (saCons (smCall (F_law_pick ns) (saCons (smV 1) (saCons (smLst (saCons (smC .non) (saCons (smTup (saCons (smC (.str c4)) saNil)) (saCons (smTup (saCons (smC (.str c2)) (saCons (smTup (saCons (smC (.str c4)) (saCons (smC (.int 0)) saNil))) (saCons (smTup (saCons (smC (.str c3)) (saCons (smC (.int 0)) saNil))) saNil)))) (saCons (smC (.str c29)) saNil))))) saNil))) saNil))) saNil)))
def l18 (ns : List Int) : SmS := (ssExpr (smMut mAppend 7 (saCons (smTold 3 1 (guardX 7 (sx_law_told ns)) (fun _ _ => some (false, .str c8)) (smCall (F_write_row ns) (saCons (smTup (saCons (smTup (saCons (smC (.str c4)) (saCons (smC (.int 0)) saNil))) (saCons (smTup (saCons (smC (.str c28)) (saCons (smC (.int 0)) saNil))) saNil))) saNil))) saNil)))
def l19 (ns : List Int) : SmS := (ssExpr (smMut mAppend 7 (saCons (smTold 3 1 (guardX 7 (sx_law_told ns)) (fun _ _ => some (false, .str c8)) (smCall (F_write_log ns) (saCons (smTup (saCons (smTup (saCons (smC (.str c15)) (saCons (smC (.int 12)) saNil))) saNil)) saNil))) saNil)))
def l20 (ns : List Int) : SmS := (ssExpr (smMut mAppend 7 (saCons (smTold 3 1 (guardX 7 (sx_law_told ns)) (fun _ _ => some (false, .str c8)) (smCall (F_write_paper ns) (saCons (smTup (saCons (smTup (saCons (smTup (saCons (smC (.int 0)) saNil)) (saCons (smC (.str c27)) saNil))) (saCons (smTup (saCons (smTup saNil) (saCons (smC (.str c26)) saNil))) saNil))) saNil))) saNil)))
def l21 (ns : List Int) : SmS := (ssRet (smPkL pEq 7 (smLst (saCons (smC (.str c24)) (saCons (smC (.str c24)) (saCons (smC (.str c24)) (saCons (smC (.str c24)) (saCons (smC (.str c23)) (saCons (smC (.str c22)) (saCons (smC (.str c21)) (saCons (smC (.str c20)) saNil)))))))))))
def xs0 : List D := [.tup [.str c8, .int 1], .tup [.str c76, .int 1], .tup [.str c2, .int 1], .tup [.str c75, .int 3], .tup [.str c74, .int 1], .tup [.str c73, .int 1], .tup [.str c72, .int 1], .tup [.str c71, .int 1], .tup [.str c0, .int 2], .tup [.str c70, .int 2], .tup [.str c69, .int 2], .tup [.str c68, .int 3], .tup [.str c67, .int 1], .tup [.str c66, .int 4], .tup [.str (mkS (tx (mkS (List.replicate 40 (tx c65)).flatten) ++ tx c29)), .int 41], .tup [.str c64, .int 1], .tup [.str c63, .int 3], .tup [.str c62, .int 4], .tup [.str c61, .int 1], .tup [.str (mkS (tx c60 ++ tx (mkS (List.replicate 25 (tx c58)).flatten))), .int 1], .tup [.str (mkS (tx (mkS (tx (mkS (tx c57 ++ tx (mkS (List.replicate 12 (tx c58)).flatten))) ++ tx c59)) ++ tx (mkS (List.replicate 13 (tx c58)).flatten))), .int 28], .tup [.str c56, .int 5]]
def xs1 : List D := [.tup [.str c55, .int 2], .tup [.str c54, .int 1], .tup [.str c53, .int 3], .tup [.str c13, .int 1], .tup [.str c52, .int 1], .tup [.str (mkS (tx (mkS (List.replicate 40 (tx c51)).flatten) ++ tx c29)), .int 41], .tup [.str c50, .int 2], .tup [.str c49, .int 1]]
def xs2 : List D := [.tup [.str c15, .int 1], .tup [.str c48, .int 1], .tup [.str c47, .int 1], .tup [.str c46, .int 2], .tup [.str c45, .int 1], .tup [.str c44, .int 1], .tup [.str c43, .int 1], .tup [.str c42, .int 1], .tup [.str (mkS (tx (mkS (List.replicate 60 (tx c41)).flatten) ++ tx c6)), .int 61], .tup [.str c40, .int 2]]
def xs3 : List D := [.tup [.str c27, .int 1], .tup [.str c39, .int 1], .tup [.str c38, .int 1], .tup [.str c37, .int 2], .tup [.str c36, .int 1], .tup [.str c35, .int 1], .tup [.str c34, .int 2], .tup [.str c33, .int 1], .tup [.str c32, .int 1], .tup [.str (mkS (tx (mkS (List.replicate 1000 (tx c30)).flatten) ++ tx c31)), .int 1001]]
def told1 (F : List Int → Fs) (ns : List Int) : Sm := smTold 3 1 (guardX 7 (sx_law_told ns)) (fun _ _ => some (false, .str c8)) (smCall (F ns) (saCons (smV 4) saNil))
def bodyL (F : List Int → Fs) (ns : List Int) : SmS := ssSeq (ssAsgT (asT' (asCons (asN 4) (asCons (asN 5) asNil))) (smCall (F_law_pick ns) (saCons (smV 1) (saCons (smV 2) saNil)))) (ssIf (smOp2 pNe (told1 F ns) (smTup (saCons (smC (.int 1)) (saCons (smV 5) saNil)))) (ssRet (smC (.bl false))) ssNil)
/-- the environment -/
abbrev En (o : Bool) (xs : List D) (a3 a4 a5 a6 a7 a8 : Sl) : Env' := [some (false, .scr), some (false, .rf 0), some (o, .lst xs), a3, a4, a5, a6, a7, a8]
def PX (F : List Int → Fs) (x : D) : Prop := ∃ (t : Str) (k : Int), x = .tup [.str t, .int k] ∧ ∀ (ns : List Int) (p g q : Int) (xs : List D) (a3 : Sl), told1 F ns (En false xs a3 (some (false, .str t)) (some (false, .int k)) none none none) [row p g q] = some (.ok false (.tup [.int 1, .int k]), En false xs a3 (some (false, .str t)) (some (false, .int k)) none none none, [row p g q])
def PXs (F : List Int → Fs) : List D → Prop
  | [] => True
  | x :: r => PX F x ∧ PXs F r
theorem PXs.all {F : List Int → Fs} : ∀ {l : List D}, PXs F l → ∀ x ∈ l, PX F x
  | [], _, x, h => by cases h
  | y :: r, hp, x, h => by
    rcases List.mem_cons.mp h with rfl | h
    · exact hp.1
    · exact hp.2.all x h
def IL (xs : List D) (e : Env') (M : Sto) : Prop := (∃ o a3 a4 a5, e = En o xs a3 a4 a5 none none none) ∧ ∃ p g q, 0 ≤ p ∧ M = [row p g q]
theorem ne_same (k : Int) : pNe (.tup [.int 1, .int k]) (.tup [.int 1, .int k]) = some (false, .bl false) := by
  simp [pNe, eqOk, EV.plain, EV.plainL, depthD, depthL, beqD, beqL]
theorem body_ok {F : List Int → Fs} {xs : List D} (hx : PXs F xs) (h0 : 0 < xs.length) (h1 : xs.length ≤ 1000) (ns : List Int) (dd : D) (e : Env') (M : Sto) (h : IL xs e M) : ∃ e1 e2 M2, asN 3 dd e = some e1 ∧ bodyL F ns e1 M = some (.nx, e2, M2) ∧ IL xs e2 M2 := by
  obtain ⟨⟨o, a3, a4, a5, rfl⟩, p, g, q, hp, rfl⟩ := h
  obtain ⟨j, p', g', q', hj, hp', hk⟩ := pick_ok ns (p := p) (g := g) (q := q) (rest := []) hp h0 h1
  obtain ⟨t, k, hx1, ht⟩ := hx.all _ (List.getElem_mem hj)
  rw [hx1] at hk
  have ha : (saCons (smV 1) (saCons (smV 2) saNil)) (En o xs (some (false, dd)) a4 a5 none none none) [row p g q] = some (.ok [.rf 0, .lst xs], En false xs (some (false, dd)) a4 a5 none none none, [row p g q]) := by cases o <;> rfl
  refine ⟨_, _, _, rfl, seq_nx (asgT_ok (call_ok ha hk) rfl) (if_f (op2_ok (o2 := false) (ht ns p' g' q' xs (some (false, dd))) rfl (ne_same k)) rfl rfl), ⟨false, _, _, _, rfl⟩, p', g', q', hp', rfl⟩
theorem loop_ok {F : List Int → Fs} {xs : List D} (hx : PXs F xs) (h0 : 0 < xs.length) (h1 : xs.length ≤ 1000) (ns : List Int) {fi : SmA} {ds : List D} {e : Env'} {M : Sto} (h : IL xs e M) (hf : fi e M = some (.ok ds, e, M)) : ∃ e2 M2, ssFor (asN 3) fi (bodyL F ns) e M = some (.nx, e2, M2) ∧ IL xs e2 M2 := by
  obtain ⟨e2, M2, h2, h3⟩ := for_inv (IL xs) (fun d e M z => body_ok hx h0 h1 ns d e M z) ds e M h
  exact ⟨e2, M2, for_ok hf h2, h3⟩
theorem px0 : PXs F_read_plan xs0 := ⟨⟨_, _, rfl, fun ns p g q xs a3 => by kernel_rfl⟩, ⟨_, _, rfl, fun ns p g q xs a3 => by kernel_rfl⟩, ⟨_, _, rfl, fun ns p g q xs a3 => by kernel_rfl⟩, ⟨_, _, rfl, fun ns p g q xs a3 => by kernel_rfl⟩, ⟨_, _, rfl, fun ns p g q xs a3 => by kernel_rfl⟩, ⟨_, _, rfl, fun ns p g q xs a3 => by kernel_rfl⟩, ⟨_, _, rfl, fun ns p g q xs a3 => by kernel_rfl⟩, ⟨_, _, rfl, fun ns p g q xs a3 => by kernel_rfl⟩, ⟨_, _, rfl, fun ns p g q xs a3 => by kernel_rfl⟩, ⟨_, _, rfl, fun ns p g q xs a3 => by kernel_rfl⟩, ⟨_, _, rfl, fun ns p g q xs a3 => by kernel_rfl⟩, ⟨_, _, rfl, fun ns p g q xs a3 => by kernel_rfl⟩, ⟨_, _, rfl, fun ns p g q xs a3 => by kernel_rfl⟩, ⟨_, _, rfl, fun ns p g q xs a3 => by kernel_rfl⟩, ⟨_, _, rfl, fun ns p g q xs a3 => by kernel_rfl⟩, ⟨_, _, rfl, fun ns p g q xs a3 => by kernel_rfl⟩, ⟨_, _, rfl, fun ns p g q xs a3 => by kernel_rfl⟩, ⟨_, _, rfl, fun ns p g q xs a3 => by kernel_rfl⟩, ⟨_, _, rfl, fun ns p g q xs a3 => by kernel_rfl⟩, ⟨_, _, rfl, fun ns p g q xs a3 => by kernel_rfl⟩, ⟨_, _, rfl, fun ns p g q xs a3 => by kernel_rfl⟩, ⟨_, _, rfl, fun ns p g q xs a3 => by kernel_rfl⟩, trivial⟩
theorem px1 : PXs F_read_row xs1 := ⟨⟨_, _, rfl, fun ns p g q xs a3 => by kernel_rfl⟩, ⟨_, _, rfl, fun ns p g q xs a3 => by kernel_rfl⟩, ⟨_, _, rfl, fun ns p g q xs a3 => by kernel_rfl⟩, ⟨_, _, rfl, fun ns p g q xs a3 => by kernel_rfl⟩, ⟨_, _, rfl, fun ns p g q xs a3 => by kernel_rfl⟩, ⟨_, _, rfl, fun ns p g q xs a3 => by kernel_rfl⟩, ⟨_, _, rfl, fun ns p g q xs a3 => by kernel_rfl⟩, ⟨_, _, rfl, fun ns p g q xs a3 => by kernel_rfl⟩, trivial⟩
theorem px2 : PXs F_read_log_text xs2 := ⟨⟨_, _, rfl, fun ns p g q xs a3 => by kernel_rfl⟩, ⟨_, _, rfl, fun ns p g q xs a3 => by kernel_rfl⟩, ⟨_, _, rfl, fun ns p g q xs a3 => by kernel_rfl⟩, ⟨_, _, rfl, fun ns p g q xs a3 => by kernel_rfl⟩, ⟨_, _, rfl, fun ns p g q xs a3 => by kernel_rfl⟩, ⟨_, _, rfl, fun ns p g q xs a3 => by kernel_rfl⟩, ⟨_, _, rfl, fun ns p g q xs a3 => by kernel_rfl⟩, ⟨_, _, rfl, fun ns p g q xs a3 => by kernel_rfl⟩, ⟨_, _, rfl, fun ns p g q xs a3 => by kernel_rfl⟩, ⟨_, _, rfl, fun ns p g q xs a3 => by kernel_rfl⟩, trivial⟩
theorem px3 : PXs F_read_paper xs3 := ⟨⟨_, _, rfl, fun ns p g q xs a3 => by kernel_rfl⟩, ⟨_, _, rfl, fun ns p g q xs a3 => by kernel_rfl⟩, ⟨_, _, rfl, fun ns p g q xs a3 => by kernel_rfl⟩, ⟨_, _, rfl, fun ns p g q xs a3 => by kernel_rfl⟩, ⟨_, _, rfl, fun ns p g q xs a3 => by kernel_rfl⟩, ⟨_, _, rfl, fun ns p g q xs a3 => by kernel_rfl⟩, ⟨_, _, rfl, fun ns p g q xs a3 => by kernel_rfl⟩, ⟨_, _, rfl, fun ns p g q xs a3 => by kernel_rfl⟩, ⟨_, _, rfl, fun ns p g q xs a3 => by kernel_rfl⟩, ⟨_, _, rfl, fun ns p g q xs a3 => by kernel_rfl⟩, trivial⟩
theorem blk0 (ns : List Int) (r : SmS) : ssSeq (l0 ns) (ssSeq (l1 ns) (ssSeq (l2 ns) (ssSeq (l3 ns) (ssSeq (l4 ns) (ssSeq (l5 ns) r))))) (init 9 [.scr]) [] = r (En true xs0 none none none none none none) [row 0 10714 0] := by kernel_rfl
theorem blk1 (ns : List Int) (r : SmS) (o : Bool) (xs : List D) (a3 a4 a5 : Sl) (p g q : Int) : ssSeq (l7 ns) r (En o xs a3 a4 a5 none none none) [row p g q] = r (En true xs1 a3 a4 a5 none none none) [row p g q] := by kernel_rfl
theorem blk2 (ns : List Int) (r : SmS) (o : Bool) (xs : List D) (a3 a4 a5 : Sl) (p g q : Int) : ssSeq (l9 ns) (ssSeq (l10 ns) r) (En o xs a3 a4 a5 none none none) [row p g q] = r (En true xs2 a3 a4 a5 none none none) [row p g q] := by kernel_rfl
theorem blk3 (ns : List Int) (r : SmS) (o : Bool) (xs : List D) (a3 a4 a5 : Sl) (p g q : Int) : ssSeq (l12 ns) (ssSeq (l13 ns) r) (En o xs a3 a4 a5 none none none) [row p g q] = r (En true xs3 a3 a4 a5 none none none) [row p g q] := by kernel_rfl
def kN : List D := [.non, .int 5, .lst [.str c29], .tup [.str c5]]
def kW : List D := [.non, .tup [.str c4], .tup [.str c2, .tup [.str c4, .int 0], .tup [.str c3, .int 0]], .str c29]
theorem mid (ns : List Int) (d : D) (hd : d ∈ kN) (o : Bool) (xs : List D) (a3 a4 a5 : Sl) (p g q : Int) : l16 ns (En o xs a3 a4 a5 (some (false, d)) (some (false, .rf 1)) none) [row p g q, .lst []] = some (.nx, En o xs a3 a4 a5 (some (false, d)) (some (false, .rf 1)) (some (false, .fn 48)), [row p g q, .lst [.str c24, .str c24, .str c24, .str c24]]) := by
  simp only [kN, List.mem_cons, List.not_mem_nil, or_false] at hd
  rcases hd with rfl | rfl | rfl | rfl <;> kernel_rfl
theorem wr (ns : List Int) (d : D) (hd : d ∈ kW) (M : Sto) : F_write_plan ns [d] M = some (.exc ⟨1, []⟩, M) := by
  simp only [kW, List.mem_cons, List.not_mem_nil, or_false] at hd
  rcases hd with rfl | rfl | rfl | rfl <;> kernel_rfl
theorem rw1 (ns : List Int) (p g q : Int) : runX 3 1 (guardX 7 (sx_law_told ns)) ⟨1, []⟩ [row p g q, .lst [.str c24, .str c24, .str c24, .str c24]] = some (.ok false (.str c23), [row p g q, .lst [.str c24, .str c24, .str c24, .str c24]]) := by kernel_rfl
theorem fin (ns : List Int) (d : D) (o : Bool) (xs : List D) (a3 a4 a5 a8 : Sl) (p g q : Int) : ssSeq (l18 ns) (ssSeq (l19 ns) (ssSeq (l20 ns) (l21 ns))) (En o xs a3 a4 a5 (some (false, d)) (some (false, .rf 1)) a8) [row p g q, .lst [.str c24, .str c24, .str c24, .str c24, .str c23]] = some (.rt false (.bl true), En o xs a3 a4 a5 (some (false, d)) (some (false, .rf 1)) a8, [row p g q, .lst [.str c24, .str c24, .str c24, .str c24, .str c23, .str c22, .str c21, .str c20]]) := by kernel_rfl
theorem st15 (ns : List Int) (o : Bool) (xs : List D) (a3 a4 a5 : Sl) (p g q : Int) (hp : 0 ≤ p) : ∃ d p' g' q', d ∈ kN ∧ 0 ≤ p' ∧ l15 ns (En o xs a3 a4 a5 none none none) [row p g q] = some (.nx, En o xs a3 a4 a5 (some (false, d)) (some (false, .rf 1)) none, [row p' g' q', .lst []]) := by
  obtain ⟨j, p', g', q', hj, hp', hk⟩ := pick_ok ns (p := p) (g := g) (q := q) (rest := []) (xs := kN) hp (by decide) (by decide)
  exact ⟨kN[j], p', g', q', List.getElem_mem hj, hp', asgT_ok (tup_ok (sa_ok (call_ok rfl hk) rfl) (by show 2 ≤ sizeLine; decide)) rfl⟩
theorem st17 (ns : List Int) (d : D) (o : Bool) (xs : List D) (a3 a4 a5 a8 : Sl) (p g q : Int) (hp : 0 ≤ p) : ∃ p' g' q', 0 ≤ p' ∧ l17 ns (En o xs a3 a4 a5 (some (false, d)) (some (false, .rf 1)) a8) [row p g q, .lst [.str c24, .str c24, .str c24, .str c24]] = some (.nx, En o xs a3 a4 a5 (some (false, d)) (some (false, .rf 1)) a8, [row p' g' q', .lst [.str c24, .str c24, .str c24, .str c24, .str c23]]) := by
  obtain ⟨j, p', g', q', hj, hp', hk⟩ := pick_ok ns (p := p) (g := g) (q := q) (rest := [.lst [.str c24, .str c24, .str c24, .str c24]]) (xs := kW) hp (by decide) (by decide)
  exact ⟨p', g', q', hp', expr_ok (mut_ok rfl rfl (sa1_ok (told_ex (call_ok (sa1_ok (call_ok rfl hk)) (wr ns _ (List.getElem_mem hj) _)) (rw1 ns p' g' q'))) rfl)⟩
theorem plain (ns : List Int) (_ : ns.length ≤ 63) (_ : ∀ z ∈ ns, Builtin.Int.intBits z ≤ 1048576) : ∃ M, F_law ns [.scr] [] = some (.ok false (.bl true), M) := by
  obtain ⟨e1, M1, h1, ⟨⟨o1, b3, b4, b5, rfl⟩, p1, g1, q1, hp1, rfl⟩⟩ := loop_ok px0 (by decide) (by decide) ns (fi := smRg rg1 (saCons (smC (.int 7)) saNil)) (e := En true xs0 none none none none none none) (M := [row 0 10714 0]) ⟨⟨_, _, _, _, rfl⟩, 0, _, _, by decide, rfl⟩ rfl
  obtain ⟨e2, M2, h2, ⟨⟨o2, c3', c4', c5', rfl⟩, p2, g2, q2, hp2, rfl⟩⟩ := loop_ok px1 (by decide) (by decide) ns (fi := smRg rg1 (saCons (smC (.int 3)) saNil)) (e := En true xs1 b3 b4 b5 none none none) (M := [row p1 g1 q1]) ⟨⟨_, _, _, _, rfl⟩, p1, _, _, hp1, rfl⟩ rfl
  obtain ⟨e3, M3, h3, ⟨⟨o3, d3, d4, d5, rfl⟩, p3, g3, q3, hp3, rfl⟩⟩ := loop_ok px2 (by decide) (by decide) ns (fi := smRg rg1 (saCons (smC (.int 3)) saNil)) (e := En true xs2 c3' c4' c5' none none none) (M := [row p2 g2 q2]) ⟨⟨_, _, _, _, rfl⟩, p2, _, _, hp2, rfl⟩ rfl
  obtain ⟨e4, M4, h4, ⟨⟨o4, f3, f4, f5, rfl⟩, p4, g4, q4, hp4, rfl⟩⟩ := loop_ok px3 (by decide) (by decide) ns (fi := smRg rg1 (saCons (smC (.int 3)) saNil)) (e := En true xs3 d3 d4 d5 none none none) (M := [row p3 g3 q3]) ⟨⟨_, _, _, _, rfl⟩, p3, _, _, hp3, rfl⟩ rfl
  obtain ⟨d, p5, g5, q5, hd, hp5, h5⟩ := st15 ns o4 xs3 f3 f4 f5 p4 g4 q4 hp4
  obtain ⟨p6, g6, q6, hp6, h6⟩ := st17 ns d o4 xs3 f3 f4 f5 (some (false, .fn 48)) p5 g5 q5 hp5
  refine ⟨_, runB_rt (body := sm_law ns) rfl ((blk0 ns _).trans (seq_nx h1 ((blk1 ns _ _ _ _ _ _ _ _ _).trans (seq_nx h2 ((blk2 ns _ _ _ _ _ _ _ _ _).trans (seq_nx h3 ((blk3 ns _ _ _ _ _ _ _ _ _).trans (seq_nx h4 (seq_nx h5 (seq_nx (mid ns d hd _ _ _ _ _ _ _ _) (seq_nx h6 (fin ns d _ _ _ _ _ _ _ _ _))))))))))))⟩
end LW

open PySem PySem.W PySem.Calls PyProof.Rows
theorem PySem.Challenge.cw_undoscopes_k14_texts_refused_holds : PySem.Challenge.rw_undoscopes_k14_texts_refused.Holds := by
  w_on; o_law
  refine HandSHeadRun.head_any (r := OpenLaw.row PySem.Challenge.rw_undoscopes_k14_texts_refused) (q := view (OpenLaw.row PySem.Challenge.rw_undoscopes_k14_texts_refused).prog [58]) (H := LW.hk) (ob := LW.ob) (M := 6000) (loose := LW.loose) (d := HandSHeadRun.topDef (OpenLaw.row PySem.Challenge.rw_undoscopes_k14_texts_refused).prog 58) (kwd := []) LW.ob_eq
    (by kernel_rfl) (fun s => by kernel_rfl) LW.run (by kernel_rfl) (by kernel_rfl) (by kernel_rfl) (by rfl) (by first | assumption | decide +kernel) (by decide +kernel) ⟨rfl, rfl, rfl, rfl, rfl, by decide +kernel⟩ ?hw ?hc
  case hw => w_witness2
  case hc =>
    refine LamX.walk_ofTsE (l := PySem.Challenge.rw_undoscopes_k14_texts_refused) (n := 63) (k := 52) (x := "_law_script") (CX := fun w => L2.CX PySem.Challenge.pw_undoscopes_k14_texts_refused w) rfl (by decide) (by kernel_rfl) ⟨rfl, by decide, by decide⟩ ?F (fun _ _ _ _ _ z => EV.cx_no z)
    intro w mg fa h Y G hmg0
    have hmg : mg ("law" : PySem.Str) = some (.ref fa) := by
      have e : (HandSHeadRun.topDef (OpenLaw.row PySem.Challenge.rw_undoscopes_k14_texts_refused).prog 58).name = ("law" : PySem.Str) := by kernel_rfl
      rw [← e]
      exact hmg0
    exact LW.lawat LW.plain w mg fa h Y G hmg

