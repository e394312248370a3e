import PyProof.Rows.All
import Wide.All
import OpenK.AllK
import Wide.FinOn
import HandS.ForMost
import HandS.Evl
import HandS.Lambda
import HandS.TupAny
import HandS.IsInst
import HandS.Conv
import HandS.TupMul
import KE.KStar
import HandS.Zip
import KE.GoesMore
import KE.GoesEnum
import HandS.Defaults
import HandS.Style
import KE.KDictZip
import KE.GoesZip
import KE.KDictItemsList
import HandS.ReSub
import HandS.Dict
import KE.KRevSl
import HandS.Set
import HandS.SetFor
import PyProof.Rows.SortStr
import HandS.Strs
import HandS.DictComp
import HandS.More
import KE.SortKeyHeap
import KE.SortData
import KE.KSortKey
import HandS.Head0
import HandS.Head1
import HandS.Head2
import HandS.HeadEnd
import HandS.HeadHook1
import HandS.HeadHook2
import HandS.HeadHook3
import HandS.HeadHook4
import HandS.EndTab
import HandS.HeadWalk
import PySem.Challenge.RW_kindkey_k22_what_kinds_miss_and_which_fi
set_option Elab.async false
set_option linter.all false
set_option maxRecDepth 100000
set_option maxHeartbeats 4000000
/-! The data layer: values as data (PyData), the heap told by what is frozen (Hf) and what a frame owns. -/
namespace DL
open PySem L2
abbrev Dat := PyData
abbrev Ex := Evl.Ex

def keyD : Key → Dat
  | .inl i => .int i
  | .inr x => .str x

mutual
inductive Den (K : PySem.W.Frag) (H : Hp) : V → Dat → Prop
  | non : Den K H .non .none
  | bl (b : Bool) : Den K H (.bl b) (.bool b)
  | int (i : Int) : Den K H (.int i) (.int i)
  | str (x : Str) : Den K H (.str x) (.str x)
  | lst {a : Addr} {xs : List V} {ds : List Dat} : Rd H a (.lst xs) → Dens K H xs ds → Den K H (.ref a) (.list ds)
  | tup {a : Addr} {xs : List V} {ds : List Dat} : SqT K H a xs → Dens K H xs ds → Den K H (.ref a) (.tuple ds)
  | dct {a : Addr} {kvs : List (Key × V)} {ps : List (Dat × Dat)} : Rd H a (.dK kvs) → DenK K H kvs ps → Den K H (.ref a) (.dict ps)
inductive Dens (K : PySem.W.Frag) (H : Hp) : List V → List Dat → Prop
  | nil : Dens K H [] []
  | cons {v : V} {vs : List V} {d : Dat} {ds : List Dat} : Den K H v d → Dens K H vs ds → Dens K H (v :: vs) (d :: ds)
inductive DenK (K : PySem.W.Frag) (H : Hp) : List (Key × V) → List (Dat × Dat) → Prop
  | nil : DenK K H [] []
  | cons {k : Key} {v : V} {r : List (Key × V)} {d : Dat} {ps : List (Dat × Dat)} : Den K H v d → DenK K H r ps → DenK K H ((k, v) :: r) ((keyD k, d) :: ps)
end

section
variable {K : PySem.W.Frag} {H H' : Hp}
mutual
theorem Den.mono (e : Ex H H') : ∀ {d : Dat} {v : V}, Den K H v d → Den K H' v d
  | .none, _, h => by cases h; exact .non
  | .bool _, _, h => by cases h; exact .bl _
  | .int _, _, h => by cases h; exact .int _
  | .str _, _, h => by cases h; exact .str _
  | .list ds, _, h => by cases h with | lst s r => exact .lst (Evl.ex_rd e s) (Dens.mono e r)
  | .tuple ds, _, h => by cases h with | tup s r => exact .tup (Evl.ex_t e s) (Dens.mono e r)
  | .dict ps, _, h => by cases h with | dct s r => exact .dct (Evl.ex_rd e s) (DenK.mono e r)
theorem Dens.mono (e : Ex H H') : ∀ {ds : List Dat} {vs : List V}, Dens K H vs ds → Dens K H' vs ds
  | [], _, h => by cases h; exact .nil
  | d :: ds, _, h => by cases h with | cons a b => exact .cons (Den.mono e a) (Dens.mono e b)
theorem DenK.mono (e : Ex H H') : ∀ {ps : List (Dat × Dat)} {kvs : List (Key × V)}, DenK K H kvs ps → DenK K H' kvs ps
  | [], _, h => by cases h; exact .nil
  | (_, d) :: ps, _, h => by cases h with | cons a b => exact .cons (Den.mono e a) (DenK.mono e b)
end
theorem Dens.length : ∀ {ds : List Dat} {vs : List V}, Dens K H vs ds → vs.length = ds.length
  | _, _, .nil => rfl
  | _, _, .cons _ t => congrArg (· + 1) (Dens.length t)
theorem Dens.get : ∀ {ds : List Dat} {vs : List V} {i : Nat} {v : V}, Dens K H vs ds → vs[i]? = some v → ∃ d, ds[i]? = some d ∧ Den K H v d
  | _, _, _, _, .nil, e => by simp at e
  | _, _, 0, _, .cons r _, e => by simp at e; subst e; exact ⟨_, rfl, r⟩
  | _, _, i + 1, v, .cons _ t, e => by
    obtain ⟨u, h1, h2⟩ := Dens.get (i := i) (v := v) t (by simpa using e)
    exact ⟨u, by simpa using h1, h2⟩
theorem Dens.getD : ∀ {ds : List Dat} {vs : List V} {i : Nat} {d : Dat}, Dens K H vs ds → ds[i]? = some d → ∃ v, vs[i]? = some v ∧ Den K H v d
  | _, _, _, _, .nil, e => by simp at e
  | _, _, 0, _, .cons r _, e => by simp at e; subst e; exact ⟨_, rfl, r⟩
  | _, _, i + 1, v, .cons _ t, e => by
    obtain ⟨u, h1, h2⟩ := Dens.getD (i := i) (d := v) t (by simpa using e)
    exact ⟨u, by simpa using h1, h2⟩
theorem Dens.append : ∀ {ds es : List Dat} {vs us : List V}, Dens K H vs ds → Dens K H us es → Dens K H (vs ++ us) (ds ++ es)
  | _, _, _, _, .nil, s => s
  | _, _, _, _, .cons r t, s => .cons r (Dens.append t s)
theorem Dens.take : ∀ {ds : List Dat} {vs : List V} (n : Nat), Dens K H vs ds → Dens K H (vs.take n) (ds.take n)
  | _, _, 0, _ => .nil
  | _, _, _ + 1, .nil => .nil
  | _, _, n + 1, .cons r t => .cons r (Dens.take n t)
theorem Dens.drop : ∀ {ds : List Dat} {vs : List V} (n : Nat), Dens K H vs ds → Dens K H (vs.drop n) (ds.drop n)
  | _, _, 0, r => r
  | _, _, _ + 1, .nil => .nil
  | _, _, n + 1, .cons _ t => Dens.drop n t
theorem Dens.set {x : V} {u : Dat} (r : Den K H x u) : ∀ {ds : List Dat} {vs : List V} (i : Nat), Dens K H vs ds → Dens K H (vs.set i x) (ds.set i u)
  | _, _, _, .nil => .nil
  | _, _, 0, .cons _ t => .cons r t
  | _, _, i + 1, .cons q t => .cons q (Dens.set r i t)
theorem Dens.dropLast : ∀ {ds : List Dat} {vs : List V}, Dens K H vs ds → Dens K H vs.dropLast ds.dropLast := fun {ds vs} r => by
  rw [List.dropLast_eq_take, List.dropLast_eq_take, r.length]
  exact r.take _
theorem Dens.reverse : ∀ {ds : List Dat} {vs : List V}, Dens K H vs ds → Dens K H vs.reverse ds.reverse
  | _, _, .nil => .nil
  | _, _, .cons r t => by
    rw [List.reverse_cons, List.reverse_cons]
    exact (Dens.reverse t).append (.cons r .nil)
theorem Dens.ints : ∀ {ns : List Int} {vs : List V}, Dens K H vs (ns.map PyData.int) → vs = ns.map V.int
  | [], _, h => by cases h; rfl
  | n :: ns, _, h => by
    cases h with
    | cons a b => cases a; rw [List.map_cons, ← Dens.ints b]
theorem Dens.bools : ∀ {ns : List Bool} {vs : List V}, Dens K H vs (ns.map PyData.bool) → vs = ns.map V.bl
  | [], _, h => by cases h; rfl
  | n :: ns, _, h => by
    cases h with
    | cons a b => cases a; rw [List.map_cons, ← Dens.bools b]
theorem Dens.strs : ∀ {ns : List Str} {vs : List V}, Dens K H vs (ns.map PyData.str) → vs = ns.map V.str
  | [], _, h => by cases h; rfl
  | n :: ns, _, h => by
    cases h with
    | cons a b => cases a; rw [List.map_cons, ← Dens.strs b]
/-- the value of flat data -/
def scV : Dat → Option V
  | .none => some .non
  | .bool b => some (.bl b)
  | .int i => some (.int i)
  | .str x => some (.str x)
  | _ => Option.none
theorem scV_den {d : Dat} {v : V} (h : scV d = some v) : Den K H v d := by
  cases d <;> simp only [scV, Option.some.injEq, reduceCtorEq] at h <;> subst h
  · exact .non
  · exact .bl _
  · exact .int _
  · exact .str _
theorem scV_of {d : Dat} {v w : V} (h : scV d = some v) (q : Den K H w d) : w = v := by
  cases d <;> simp only [scV, Option.some.injEq, reduceCtorEq] at h <;> subst h <;> cases q <;> rfl
end

/-! ### what a frame holds -/
inductive Own where
  | lst (l : List Dat)
  | dct (l : List (Dat × Dat))
inductive Slot where
  | no
  | d (x : Dat)
  | own (o : Own)
  | bor (i : Nat)
  | fn (a : Addr)
abbrev Env := List Slot
abbrev M := Env → Option (Slot × Env)
def Own.dat : Own → Dat
  | .lst l => .list l
  | .dct l => .dict l

def OwnAt (K : PySem.W.Frag) (Hf H : Hp) (a : Addr) : Own → List Addr → Prop
  | .lst l, fp => fp = [a] ∧ Hf a = none ∧ ∃ xs, H a = some (.lst xs) ∧ Dens K Hf xs l
  | .dct l, fp => fp = [a] ∧ Hf a = none ∧ ∃ kvs, H a = some (.dK kvs) ∧ DenK K Hf kvs l
def SlotOk (K : PySem.W.Frag) (Hf H : Hp) (ov : Option (Option V)) : Slot → List Addr → Prop
  | .no, fp => fp = []
  | .d x, fp => fp = [] ∧ ∃ v, ov = some (some v) ∧ Den K Hf v x
  | .own o, fp => ∃ a, ov = some (some (.ref a)) ∧ OwnAt K Hf H a o fp
  | .bor _, _ => False
  | .fn a, fp => fp = [] ∧ ov = some (some (.ref a))
structure Pend where
  v : V
  s : Slot
  fp : List Addr
def PendOk (K : PySem.W.Frag) (Hf H : Hp) (σ : St) (v : V) : Slot → List Addr → Prop
  | .no, _ => False
  | .d x, fp => fp = [] ∧ Den K Hf v x
  | .own o, fp => ∃ a, v = .ref a ∧ OwnAt K Hf H a o fp
  | .bor i, fp => fp = [] ∧ σ[i]? = some (some v)
  | .fn a, fp => fp = [] ∧ v = .ref a
/-- the tables of code objects that the law's lambdas ask for -/
class TabsC where
  tabs : List (Addr × Str)
def NT (o : HO) : Prop := ∀ ps, o ≠ .tbl ps
structure Base where
  Hf : Hp
  H : Hp
  O : Addr → Prop
/-- nothing but a table stands at a in the base -/
def NB (B : Base) (a : Addr) : Prop := ∀ o, B.H a = some o → ¬ NT o
structure ReachF [TabsC] (K : PySem.W.Frag) (B : Base) (Hf H : Hp) (σ : St) (Γ : Env) (f : Nat → List Addr) (ps : List Pend) : Prop where
  len : σ.length = Γ.length
  sub : Ex Hf H
  slot : ∀ i g, Γ[i]? = some g → SlotOk K Hf H σ[i]? g (f i)
  out : ∀ i, Γ[i]? = none → f i = []
  disj : ∀ i j a, a ∈ f i → a ∈ f j → i = j
  pend : ∀ p ∈ ps, PendOk K Hf H σ p.v p.s p.fp
  pdis : ps.Pairwise fun p q => ∀ a, a ∈ p.fp → a ∉ q.fp
  psl : ∀ p ∈ ps, ∀ a ∈ p.fp, ∀ i, a ∉ f i
  ex : Ex B.Hf Hf
  keep : ∀ a o, B.H a = some o → ¬ B.O a → NT o → H a = some o
  dom : ∀ a o, B.H a = some o → NT o → ∃ u, H a = some u ∧ NT u
  new : ∀ a, Hf a ≠ none → B.Hf a ≠ none ∨ NB B a ∨ B.O a
  own : ∀ i a, a ∈ f i → NB B a ∨ B.O a
  pown : ∀ p ∈ ps, ∀ a ∈ p.fp, NB B a ∨ B.O a
  tab : (∀ a o, Hf a = some o → NT o) ∧ LamX.Tabs TabsC.tabs H
def Reach [TabsC] (K : PySem.W.Frag) (B : Base) (Hf H : Hp) (σ : St) (Γ : Env) (ps : List Pend) : Prop := ∃ f, ReachF K B Hf H σ Γ f ps

section
variable [TabsC] {K : PySem.W.Frag} {B : Base} {Hf H Hf' H' : Hp} {σ σ' : St} {Γ Γ' : Env} {f : Nat → List Addr} {ps : List Pend} {a : Addr} {o : Own} {fp : List Addr}
theorem OwnAt.off (h : OwnAt K Hf H a o fp) : ∀ b ∈ fp, Hf b = none ∧ H b ≠ none := by
  intro b hb
  cases o with
  | lst l =>
    obtain ⟨e, h1, xs, h2, _⟩ := h
    subst e
    obtain rfl : b = a := by simpa using hb
    exact ⟨h1, fun z => by rw [h2] at z; cases z⟩
  | dct l =>
    obtain ⟨e, h1, xs, h2, _⟩ := h
    subst e
    obtain rfl : b = a := by simpa using hb
    exact ⟨h1, fun z => by rw [h2] at z; cases z⟩
omit [TabsC] in
theorem OwnAt.nt (h : OwnAt K Hf H a o fp) : ∀ b ∈ fp, ∀ u, H b = some u → NT u := by
  intro b hb u hu
  cases o with
  | lst l =>
    obtain ⟨e, h1, xs, h2, _⟩ := h
    subst e
    obtain rfl : b = a := by simpa using hb
    rw [h2] at hu
    cases hu
    exact fun ps z => by cases z
  | dct l =>
    obtain ⟨e, h1, xs, h2, _⟩ := h
    subst e
    obtain rfl : b = a := by simpa using hb
    rw [h2] at hu
    cases hu
    exact fun ps z => by cases z
theorem OwnAt.stay (h : OwnAt K Hf H a o fp) (k : ∀ b ∈ fp, H' b = H b) (e : Ex Hf Hf') (n : ∀ b ∈ fp, Hf' b = none) : OwnAt K Hf' H' a o fp := by
  cases o with
  | lst l =>
    obtain ⟨rfl, h1, xs, h2, h3⟩ := h
    exact ⟨rfl, n a (by simp), xs, (k a (by simp)).trans h2, h3.mono e⟩
  | dct l =>
    obtain ⟨rfl, h1, xs, h2, h3⟩ := h
    exact ⟨rfl, n a (by simp), xs, (k a (by simp)).trans h2, h3.mono e⟩
theorem OwnAt.den (h : OwnAt K Hf H a o fp) (e : Ex Hf H) : Den K H (.ref a) o.dat := by
  cases o with
  | lst l => obtain ⟨_, _, xs, h2, h3⟩ := h; exact .lst (Rd.of h2) (h3.mono e)
  | dct l => obtain ⟨_, _, xs, h2, h3⟩ := h; exact .dct (Rd.of h2) (h3.mono e)
theorem OwnAt.mem (h : OwnAt K Hf H a o fp) : a ∈ fp := by
  cases o with
  | lst l => obtain ⟨rfl, _⟩ := h; simp
  | dct l => obtain ⟨rfl, _⟩ := h; simp
theorem SlotOk.stay {ov : Option (Option V)} {g : Slot} (h : SlotOk K Hf H ov g fp) (k : ∀ b ∈ fp, H' b = H b) (e : Ex Hf Hf') (n : ∀ b ∈ fp, Hf' b = none) : SlotOk K Hf' H' ov g fp := by
  cases g with
  | no => exact h
  | d x => obtain ⟨h1, v, h2, h3⟩ := h; exact ⟨h1, v, h2, h3.mono e⟩
  | own o => obtain ⟨a, h1, h2⟩ := h; exact ⟨a, h1, h2.stay k e n⟩
  | bor i => exact h
  | fn a => exact h
theorem PendOk.stay {v : V} {g : Slot} (h : PendOk K Hf H σ v g fp) (k : ∀ b ∈ fp, H' b = H b) (e : Ex Hf Hf') (n : ∀ b ∈ fp, Hf' b = none) : PendOk K Hf' H' σ v g fp := by
  cases g with
  | no => exact h
  | d x => obtain ⟨h1, h3⟩ := h; exact ⟨h1, h3.mono e⟩
  | own o => obtain ⟨a, h1, h2⟩ := h; exact ⟨a, h1, h2.stay k e n⟩
  | bor i => exact h
  | fn a => exact h
theorem SlotOk.off {ov : Option (Option V)} {g : Slot} (h : SlotOk K Hf H ov g fp) : ∀ b ∈ fp, Hf b = none ∧ H b ≠ none := by
  intro b hb
  cases g with
  | no => obtain rfl : fp = [] := h; simp at hb
  | d x => obtain ⟨rfl, _⟩ := h; simp at hb
  | own o => obtain ⟨a, h1, h2⟩ := h; exact h2.off b hb
  | bor i => exact h.elim
  | fn a => obtain ⟨rfl, _⟩ := h; simp at hb
theorem PendOk.off {v : V} {g : Slot} (h : PendOk K Hf H σ v g fp) : ∀ b ∈ fp, Hf b = none ∧ H b ≠ none := by
  intro b hb
  cases g with
  | no => exact h.elim
  | d x => obtain ⟨rfl, _⟩ := h; simp at hb
  | own o => obtain ⟨a, h1, h2⟩ := h; exact h2.off b hb
  | bor i => obtain ⟨rfl, _⟩ := h; simp at hb
  | fn a => obtain ⟨rfl, _⟩ := h; simp at hb
omit [TabsC] in
theorem SlotOk.nt {ov : Option (Option V)} {g : Slot} (h : SlotOk K Hf H ov g fp) : ∀ b ∈ fp, ∀ u, H b = some u → NT u := by
  intro b hb
  cases g with
  | no => obtain rfl : fp = [] := h; simp at hb
  | d x => obtain ⟨rfl, _⟩ := h; simp at hb
  | own o => obtain ⟨a, h1, h2⟩ := h; exact h2.nt b hb
  | bor i => exact h.elim
  | fn a => obtain ⟨rfl, _⟩ := h; simp at hb
omit [TabsC] in
theorem PendOk.nt {v : V} {g : Slot} (h : PendOk K Hf H σ v g fp) : ∀ b ∈ fp, ∀ u, H b = some u → NT u := by
  intro b hb
  cases g with
  | no => exact h.elim
  | d x => obtain ⟨rfl, _⟩ := h; simp at hb
  | own o => obtain ⟨a, h1, h2⟩ := h; exact h2.nt b hb
  | bor i => obtain ⟨rfl, _⟩ := h; simp at hb
  | fn a => obtain ⟨rfl, _⟩ := h; simp at hb
theorem ReachF.off (R : ReachF K B Hf H σ Γ f ps) (i : Nat) : ∀ b ∈ f i, Hf b = none ∧ H b ≠ none := by
  intro b hb
  cases e : Γ[i]? with
  | none => rw [R.out i e] at hb; simp at hb
  | some g => exact (R.slot i g e).off b hb
theorem ReachF.poff (R : ReachF K B Hf H σ Γ f ps) {p : Pend} (hp : p ∈ ps) : ∀ b ∈ p.fp, Hf b = none ∧ H b ≠ none := (R.pend p hp).off

theorem ReachF.pnt (R : ReachF K B Hf H σ Γ f ps) {p : Pend} (hp : p ∈ ps) : ∀ b ∈ p.fp, ∀ u, H b = some u → NT u := (R.pend p hp).nt
theorem ReachF.nt (R : ReachF K B Hf H σ Γ f ps) (i : Nat) : ∀ b ∈ f i, ∀ u, H b = some u → NT u := by
  intro b hb
  cases e : Γ[i]? with
  | none => rw [R.out i e] at hb; simp at hb
  | some g => exact (R.slot i g e).nt b hb
omit [TabsC] in
theorem tabs_upd {T : List (Addr × Str)} {u : HO} (t : LamX.Tabs T H) (h : ∀ o, H a = some o → NT o ∧ ∀ c q, o ≠ LamX.CodeO c q) : LamX.Tabs T (upd H a u) := fun p hp => by
  obtain ⟨qs, h1, h2, h3⟩ := t p hp
  refine ⟨qs, ?_, h2, fun pos cv hc => ?_⟩
  · rw [upd_ne fun e => (h _ (by rw [← e]; exact h1)).1 qs rfl]; exact h1
  · obtain ⟨c, e1, e2⟩ := h3 pos cv hc
    exact ⟨c, e1, by rw [upd_ne fun e => (h _ (by rw [← e]; exact e2)).2 c p.2 rfl]; exact e2⟩
/-- the heap grows at fresh places, what is new may be frozen -/
theorem ReachF.grow (R : ReachF K B Hf H σ Γ f ps) (e : Ex H H') (e2 : Ex Hf Hf') (e3 : Ex Hf' H') (n : ∀ a, Hf' a ≠ none → Hf a ≠ none ∨ H a = none) (t : ∀ a o, Hf' a = some o → Hf a = some o ∨ NT o) : ReachF K B Hf' H' σ Γ f ps := by
  have nn : ∀ b, Hf b = none → H b ≠ none → Hf' b = none := fun b h1 h2 => by
    by_cases q : Hf' b = none
    · exact q
    · rcases n b q with z | z
      · exact absurd h1 z
      · exact absurd z h2
  have kk : ∀ b, H b ≠ none → H' b = H b := fun b h2 => by
    cases q : H b with
    | none => exact absurd q h2
    | some o => exact e b o q
  refine ⟨R.len, e3, fun i g hi => (R.slot i g hi).stay (fun b hb => kk b (R.off i b hb).2) e2 (fun b hb => nn b (R.off i b hb).1 (R.off i b hb).2), R.out, R.disj,
    fun p hp => (R.pend p hp).stay (fun b hb => kk b (R.poff hp b hb).2) e2 (fun b hb => nn b (R.poff hp b hb).1 (R.poff hp b hb).2), R.pdis, R.psl, R.ex.trans e2,
    fun a o h1 h2 h3 => e a o (R.keep a o h1 h2 h3), fun a o h1 h2 => ?_, fun a h1 => ?_, R.own, R.pown, fun a o h => (t a o h).elim (R.tab.1 a o) id, R.tab.2.ext e⟩
  · obtain ⟨u, h4, h5⟩ := R.dom a o h1 h2
    exact ⟨u, e a u h4, h5⟩
  · rcases n a h1 with z | z
    · exact R.new a z
    · exact .inr (.inl fun o h2 h3 => by obtain ⟨u, h4, _⟩ := R.dom a o h2 h3; rw [z] at h4; cases h4)
theorem ex_upd {o : HO} {p : Addr} (h : H p = none) : Ex H (upd H p o) := Evl.Ex.new h
theorem ReachF.alloc {o : HO} {p : Addr} (R : ReachF K B Hf H σ Γ f ps) (h : H p = none) : ReachF K B Hf (upd H p o) σ Γ f ps :=
  R.grow (ex_upd h) (Evl.Ex.refl _) (R.sub.trans (ex_upd h)) (fun a q => .inl q) fun a o h => .inl h
theorem ReachF.allocF {o : HO} {p : Addr} (R : ReachF K B Hf H σ Γ f ps) (h : H p = none) (hn : NT o) : ReachF K B (upd Hf p o) (upd H p o) σ Γ f ps := by
  have hf : Hf p = none := Evl.fresh_back R.sub h
  refine R.grow (ex_upd h) (ex_upd hf) (fun a u q => ?_) (fun a q => ?_) fun a u q => ?_
  · by_cases e : a = p
    · subst e; rw [upd_same] at q ⊢; exact q
    · rw [upd_ne e] at q ⊢; exact R.sub a u q
  · by_cases e : a = p
    · subst e; exact .inr h
    · rw [upd_ne e] at q; exact .inl q
  · by_cases e : a = p
    · subst e; rw [upd_same] at q; cases q; exact .inr hn
    · rw [upd_ne e] at q; exact .inl q
theorem ReachF.fresh {p : Addr} (R : ReachF K B Hf H σ Γ f ps) (h : H p = none) : (∀ i, p ∉ f i) ∧ (∀ q ∈ ps, p ∉ q.fp) ∧ NB B p := by
  refine ⟨fun i hb => absurd h (R.off i p hb).2, fun q hq hb => absurd h (R.poff hq p hb).2, fun o h2 h3 => by obtain ⟨u, h4, _⟩ := R.dom p o h2 h3; rw [h] at h4; cases h4⟩
/-- a value that is held for a while -/
theorem ReachF.push {v : V} {s : Slot} (R : ReachF K B Hf H σ Γ f ps) (ok : PendOk K Hf H σ v s fp) (h1 : ∀ a ∈ fp, (∀ i, a ∉ f i) ∧ ∀ q ∈ ps, a ∉ q.fp) (h2 : ∀ a ∈ fp, NB B a ∨ B.O a) :
    ReachF K B Hf H σ Γ f (⟨v, s, fp⟩ :: ps) := by
  refine ⟨R.len, R.sub, R.slot, R.out, R.disj, fun p hp => ?_, List.pairwise_cons.mpr ⟨fun q hq a ha => (h1 a ha).2 q hq, R.pdis⟩, fun p hp => ?_, R.ex, R.keep, R.dom, R.new, R.own, fun p hp => ?_, R.tab⟩
  · rcases List.mem_cons.mp hp with rfl | hp
    · exact ok
    · exact R.pend p hp
  · rcases List.mem_cons.mp hp with rfl | hp
    · exact fun a ha => (h1 a ha).1
    · exact R.psl p hp
  · rcases List.mem_cons.mp hp with rfl | hp
    · exact h2
    · exact R.pown p hp
theorem ReachF.pushD {v : V} {x : Dat} (R : ReachF K B Hf H σ Γ f ps) (h : Den K Hf v x) : ReachF K B Hf H σ Γ f (⟨v, .d x, []⟩ :: ps) :=
  R.push ⟨rfl, h⟩ (by simp) (by simp)
theorem ReachF.pop {p : Pend} (R : ReachF K B Hf H σ Γ f (p :: ps)) : ReachF K B Hf H σ Γ f ps :=
  ⟨R.len, R.sub, R.slot, R.out, R.disj, fun q hq => R.pend q (List.mem_cons_of_mem _ hq), (List.pairwise_cons.mp R.pdis).2, fun q hq => R.psl q (List.mem_cons_of_mem _ hq), R.ex, R.keep, R.dom, R.new, R.own, fun q hq => R.pown q (List.mem_cons_of_mem _ hq), R.tab⟩
/-- a new list, a new tuple -/
theorem ReachF.newL {p : Addr} {xs : List V} {ds : List Dat} (R : ReachF K B Hf H σ Γ f ps) (h : H p = none) (d : Dens K Hf xs ds) : ReachF K B Hf (upd H p (.lst xs)) σ Γ f (⟨.ref p, .own (.lst ds), [p]⟩ :: ps) := by
  obtain ⟨f1, f2, f3⟩ := R.fresh h
  refine (R.alloc h).push ⟨p, rfl, rfl, Evl.fresh_back R.sub h, xs, upd_same, d⟩ (fun a ha => ?_) (fun a ha => ?_)
  · obtain rfl : a = p := by simpa using ha
    exact ⟨f1, f2⟩
  · obtain rfl : a = p := by simpa using ha
    exact .inl f3
theorem ReachF.newD {p : Addr} {kvs : List (Key × V)} {ds : List (Dat × Dat)} (R : ReachF K B Hf H σ Γ f ps) (h : H p = none) (d : DenK K Hf kvs ds) : ReachF K B Hf (upd H p (.dK kvs)) σ Γ f (⟨.ref p, .own (.dct ds), [p]⟩ :: ps) := by
  obtain ⟨f1, f2, f3⟩ := R.fresh h
  refine (R.alloc h).push ⟨p, rfl, rfl, Evl.fresh_back R.sub h, kvs, upd_same, d⟩ (fun a ha => ?_) (fun a ha => ?_)
  · obtain rfl : a = p := by simpa using ha
    exact ⟨f1, f2⟩
  · obtain rfl : a = p := by simpa using ha
    exact .inl f3
theorem ReachF.newT {p : Addr} {xs : List V} {ds : List Dat} (R : ReachF K B Hf H σ Γ f ps) (h : H p = none) (d : Dens K Hf xs ds) : ReachF K B (upd Hf p (.tup xs)) (upd H p (.tup xs)) σ Γ f (⟨.ref p, .d (.tuple ds), []⟩ :: ps) :=
  (R.allocF h fun _ z => by cases z).pushD (.tup (SqT.of upd_same) (d.mono (ex_upd (Evl.fresh_back R.sub h))))

/-! ### freezing -/
/-- the frozen heap with the objects at fp -/
def frz (Hf H : Hp) (fp : List Addr) : Hp := fun b => if b ∈ fp then H b else Hf b
theorem frz_in (h : a ∈ fp) : frz Hf H fp a = H a := by unfold frz; rw [if_pos h]
theorem frz_out (h : a ∉ fp) : frz Hf H fp a = Hf a := by unfold frz; rw [if_neg h]
theorem ex_frz (n : ∀ b ∈ fp, Hf b = none) : Ex Hf (frz Hf H fp) := fun b u q => by
  by_cases e : b ∈ fp
  · rw [n b e] at q; cases q
  · rw [frz_out e]; exact q
theorem frz_sub (s : Ex Hf H) : Ex (frz Hf H fp) H := fun b u q => by
  by_cases e : b ∈ fp
  · rw [frz_in e] at q; exact q
  · rw [frz_out e] at q; exact s b u q
theorem OwnAt.frz (h : OwnAt K Hf H a o fp) : Den K (frz Hf H fp) (.ref a) o.dat := by
  have e : Ex Hf (DL.frz Hf H fp) := ex_frz fun b hb => (h.off b hb).1
  have hm := h.mem
  cases o with
  | lst l => obtain ⟨_, _, xs, h2, h3⟩ := h; exact .lst (Rd.of ((frz_in hm).trans h2)) (h3.mono e)
  | dct l => obtain ⟨_, _, xs, h2, h3⟩ := h; exact .dct (Rd.of ((frz_in hm).trans h2)) (h3.mono e)
/-- others stay when fp is frozen -/
theorem SlotOk.frzO {ov : Option (Option V)} {g : Slot} {gp : List Addr} (h : SlotOk K Hf H ov g gp) (n : ∀ b ∈ fp, Hf b = none) (d : ∀ b ∈ gp, b ∉ fp) : SlotOk K (DL.frz Hf H fp) H ov g gp :=
  h.stay (fun _ _ => rfl) (ex_frz n) fun b hb => by rw [frz_out (d b hb)]; exact (h.off b hb).1
theorem PendOk.frzO {v : V} {g : Slot} {gp : List Addr} (h : PendOk K Hf H σ v g gp) (n : ∀ b ∈ fp, Hf b = none) (d : ∀ b ∈ gp, b ∉ fp) : PendOk K (DL.frz Hf H fp) H σ v g gp :=
  h.stay (fun _ _ => rfl) (ex_frz n) fun b hb => by rw [frz_out (d b hb)]; exact (h.off b hb).1
/-- the last held value is frozen -/
theorem ReachF.frzP {v : V} {o : Own} (R : ReachF K B Hf H σ Γ f (⟨v, .own o, fp⟩ :: ps)) : ReachF K B (frz Hf H fp) H σ Γ f (⟨v, .d o.dat, []⟩ :: ps) := by
  obtain ⟨a, e, h⟩ : ∃ a, v = .ref a ∧ OwnAt K Hf H a o fp := R.pend _ List.mem_cons_self
  subst e
  have n : ∀ b ∈ fp, Hf b = none := fun b hb => (h.off b hb).1
  have pd := List.pairwise_cons.mp R.pdis
  have R1 : ReachF K B (DL.frz Hf H fp) H σ Γ f ps := by
    refine ⟨R.len, frz_sub R.sub, fun i g hi => (R.slot i g hi).frzO n fun b hb hc => R.psl _ List.mem_cons_self b hc i hb, R.out, R.disj,
      fun q hq => (R.pend q (List.mem_cons_of_mem _ hq)).frzO n fun b hb hc => pd.1 q hq b hc hb, pd.2, fun q hq => R.psl q (List.mem_cons_of_mem _ hq), R.ex.trans (ex_frz n), R.keep, R.dom, fun a ha => ?_, R.own, fun q hq => R.pown q (List.mem_cons_of_mem _ hq), fun a o q => ?_, R.tab.2⟩
    rotate_left
    · by_cases e : a ∈ fp
      · rw [frz_in e] at q; exact h.nt a e o q
      · rw [frz_out e] at q; exact R.tab.1 a o q
    by_cases e : a ∈ fp
    · exact .inr (R.pown _ List.mem_cons_self a e)
    · rw [frz_out e] at ha; exact R.new a ha
  exact R1.pushD h.frz
/-- an owned slot is frozen -/
theorem ReachF.frzS {i : Nat} {o : Own} (R : ReachF K B Hf H σ Γ f ps) (hi : Γ[i]? = some (.own o)) : ReachF K B (frz Hf H (f i)) H σ (Γ.set i (.d o.dat)) (fun j => if j = i then [] else f j) ps := by
  obtain ⟨a, e, h⟩ : ∃ a, σ[i]? = some (some (.ref a)) ∧ OwnAt K Hf H a o (f i) := R.slot i _ hi
  have n : ∀ b ∈ f i, Hf b = none := fun b hb => (h.off b hb).1
  have hil : i < Γ.length := (List.getElem?_eq_some_iff.mp hi).1
  refine ⟨by rw [List.length_set]; exact R.len, frz_sub R.sub, fun j g hj => ?_, fun j hj => ?_, fun j k a ha hb => ?_, fun q hq => (R.pend q hq).frzO n fun b hb hc => R.psl q hq b hb i hc, R.pdis, fun q hq a ha j hb => ?_,
    R.ex.trans (ex_frz n), R.keep, R.dom, fun a ha => ?_, fun j a ha => ?_, R.pown, fun a o q => ?_, R.tab.2⟩
  rotate_right
  · by_cases e : a ∈ f i
    · rw [frz_in e] at q; exact h.nt a e o q
    · rw [frz_out e] at q; exact R.tab.1 a o q
  · by_cases ej : j = i
    · subst ej
      rw [List.getElem?_set_self hil] at hj
      cases hj
      simp only [if_true]
      exact ⟨rfl, _, e, h.frz⟩
    · rw [List.getElem?_set_ne (Ne.symm ej)] at hj
      simp only [ej, if_false]
      exact (R.slot j g hj).frzO n fun b hb hc => ej (R.disj j i b hb hc)
  · by_cases ej : j = i
    · simp [ej]
    · rw [List.getElem?_set_ne (Ne.symm ej)] at hj
      simp only [ej, if_false]
      exact R.out j hj
  · by_cases ej : j = i
    · simp [ej] at ha
    · by_cases ek : k = i
      · simp [ek] at hb
      · simp only [ej, ek, if_false] at ha hb
        exact R.disj j k a ha hb
  · by_cases ej : j = i
    · simp [ej] at hb
    · simp only [ej, if_false] at hb
      exact R.psl q hq a ha j hb
  · by_cases e : a ∈ f i
    · exact .inr (R.own i a e)
    · rw [frz_out e] at ha; exact R.new a ha
  · by_cases ej : j = i
    · simp [ej] at ha
    · simp only [ej, if_false] at ha
      exact R.own j a ha
end
end DL

set_option Elab.async false
set_option linter.all false
set_option maxRecDepth 100000
set_option maxHeartbeats 4000000
namespace DL
open PySem L2
section
variable [TabsC] {K : PySem.W.Frag} {B : Base} {Hf H Hf' H' : Hp} {σ σ' : St} {Γ Γ' : Env} {f f' : Nat → List Addr} {ps ps' : List Pend} {a : Addr} {o : Own} {fp : List Addr} {v w : V} {s t : Slot}

/-- what a held value stands for now -/
def viewD (Γ : Env) : Slot → Option Dat
  | .d x => some x
  | .own o => some o.dat
  | .bor i => match Γ[i]? with
    | some (.own o) => some o.dat
    | some (.d x) => some x
    | _ => none
  | _ => none
/-- .. and freezing it -/
def settle (Γ : Env) : Slot → Option (Dat × Env)
  | .d x => some (x, Γ)
  | .own o => some (o.dat, Γ)
  | .bor i => match Γ[i]? with
    | some (.own o) => some (o.dat, Γ.set i (.d o.dat))
    | some (.d x) => some (x, Γ)
    | _ => none
  | _ => none
/-- the items of a list or tuple (true: a list) -/
def seqOf : Dat → Option (Bool × List Dat)
  | .list l => some (true, l)
  | .tuple l => some (false, l)
  | _ => none

theorem ReachF.viewP {p : Pend} {d : Dat} (R : ReachF K B Hf H σ Γ f ps) (hp : p ∈ ps) (h : viewD Γ p.s = some d) : Den K H p.v d := by
  have q := R.pend p hp
  obtain ⟨v, s, fp⟩ := p
  cases s with
  | no => cases h
  | d x => cases h; exact q.2.mono R.sub
  | own o => cases h; obtain ⟨a, rfl, q⟩ := q; exact q.den R.sub
  | fn a => cases h
  | bor i =>
    obtain ⟨_, e⟩ := q
    simp only [viewD] at h
    split at h
    · rename_i o ho
      cases h
      obtain ⟨a, e1, q1⟩ := R.slot i _ ho
      rw [e] at e1
      cases e1
      exact q1.den R.sub
    · rename_i x hx
      cases h
      obtain ⟨_, w, e1, q1⟩ := R.slot i _ hx
      rw [e] at e1
      cases e1
      exact q1.mono R.sub
    · cases h
/-- a list's or tuple's items are frozen -/
theorem OwnAt.items {b : Bool} {l : List Dat} (h : OwnAt K Hf H a o fp) (e : seqOf o.dat = some (b, l)) : ∃ xs, (if b then Rd H a (.lst xs) else SqT K H a xs) ∧ Dens K Hf xs l := by
  cases o with
  | lst l' =>
    obtain ⟨_, _, xs, h2, h3⟩ := h
    simp only [Own.dat, seqOf, Option.some.injEq, Prod.mk.injEq] at e
    obtain ⟨rfl, rfl⟩ := e
    exact ⟨xs, Rd.of h2, h3⟩
  | dct l' => cases e
theorem Den.items {b : Bool} {l : List Dat} {d : Dat} (h : Den K Hf v d) (s : Ex Hf H) (e : seqOf d = some (b, l)) : ∃ a xs, v = .ref a ∧ (if b then Rd H a (.lst xs) else SqT K H a xs) ∧ Dens K Hf xs l := by
  cases h with
  | lst h1 h2 =>
    simp only [seqOf, Option.some.injEq, Prod.mk.injEq] at e
    obtain ⟨rfl, rfl⟩ := e
    exact ⟨_, _, rfl, Evl.ex_rd s h1, h2⟩
  | tup h1 h2 =>
    simp only [seqOf, Option.some.injEq, Prod.mk.injEq] at e
    obtain ⟨rfl, rfl⟩ := e
    exact ⟨_, _, rfl, Evl.ex_t s h1, h2⟩
  | _ => cases e
theorem ReachF.itemsP {p : Pend} {d : Dat} {b : Bool} {l : List Dat} (R : ReachF K B Hf H σ Γ f ps) (hp : p ∈ ps) (h : viewD Γ p.s = some d) (e : seqOf d = some (b, l)) :
    ∃ a xs, p.v = .ref a ∧ (if b then Rd H a (.lst xs) else SqT K H a xs) ∧ Dens K Hf xs l := by
  have q := R.pend p hp
  obtain ⟨v, s, fp⟩ := p
  cases s with
  | no => cases h
  | d x => cases h; exact q.2.items R.sub e
  | own o => cases h; obtain ⟨a, rfl, q⟩ := q; obtain ⟨xs, q1, q2⟩ := q.items e; exact ⟨a, xs, rfl, q1, q2⟩
  | fn a => cases h
  | bor i =>
    obtain ⟨_, e0⟩ := q
    simp only [viewD] at h
    split at h
    · rename_i o ho
      cases h
      obtain ⟨a, e1, q1⟩ := R.slot i _ ho
      rw [e0] at e1
      cases e1
      obtain ⟨xs, q1, q2⟩ := q1.items e
      exact ⟨a, xs, rfl, q1, q2⟩
    · rename_i x hx
      cases h
      obtain ⟨_, w, e1, q1⟩ := R.slot i _ hx
      rw [e0] at e1
      cases e1
      exact q1.items R.sub e
    · cases h
theorem Reach.settle {x : Dat} (R : Reach K B Hf H σ Γ (⟨v, s, fp⟩ :: ps)) (h : DL.settle Γ s = some (x, Γ')) : ∃ Hf', Ex Hf Hf' ∧ Reach K B Hf' H σ Γ' (⟨v, .d x, []⟩ :: ps) := by
  obtain ⟨f, R⟩ := R
  cases s with
  | no => cases h
  | d y =>
    simp only [DL.settle, Option.some.injEq, Prod.mk.injEq] at h
    obtain ⟨rfl, rfl⟩ := h
    obtain rfl : fp = [] := (R.pend _ List.mem_cons_self).1
    exact ⟨Hf, Evl.Ex.refl _, f, R⟩
  | own o =>
    simp only [DL.settle, Option.some.injEq, Prod.mk.injEq] at h
    obtain ⟨rfl, rfl⟩ := h
    exact ⟨_, ex_frz fun b hb => (R.poff List.mem_cons_self b hb).1, f, R.frzP⟩
  | fn a => cases h
  | bor i =>
    obtain ⟨_, e0⟩ := R.pend _ List.mem_cons_self
    simp only [DL.settle] at h
    split at h
    · rename_i o ho
      simp only [Option.some.injEq, Prod.mk.injEq] at h
      obtain ⟨rfl, rfl⟩ := h
      have R2 := R.pop.frzS ho
      refine ⟨_, ex_frz fun b hb => (R.off i b hb).1, _, R2.pushD ?_⟩
      obtain ⟨a, e1, q1⟩ := R.slot i _ ho
      rw [e0] at e1
      cases e1
      exact q1.frz
    · rename_i y hy
      simp only [Option.some.injEq, Prod.mk.injEq] at h
      obtain ⟨rfl, rfl⟩ := h
      obtain ⟨_, w, e1, q1⟩ := R.slot i _ hy
      rw [e0] at e1
      cases e1
      exact ⟨Hf, Evl.Ex.refl _, f, R.pop.pushD q1⟩
    · cases h
theorem settle_len {x : Dat} (h : DL.settle Γ s = some (x, Γ')) : Γ'.length = Γ.length := by
  cases s <;> simp only [DL.settle, Option.some.injEq, Prod.mk.injEq, reduceCtorEq] at h
  · rw [h.2]
  · rw [h.2]
  · split at h <;> simp only [Option.some.injEq, Prod.mk.injEq, reduceCtorEq] at h
    · rw [← h.2, List.length_set]
    · rw [h.2]

/-- a stretch over a new base put behind what stood -/
theorem ReachF.trans (R : ReachF K B Hf H σ Γ f ps) (R2 : ReachF K ⟨Hf, H, fun a => ∃ i, a ∈ f i⟩ Hf' H' σ' Γ' f' ps') (hσ : ps = [] ∨ σ' = σ) : ReachF K B Hf' H' σ' Γ' f' (ps' ++ ps) := by
  have nO : ∀ p ∈ ps, ∀ a ∈ p.fp, ¬ ∃ i, a ∈ f i := fun p hp a ha ⟨i, h⟩ => R.psl p hp a ha i h
  have kk : ∀ p ∈ ps, ∀ a ∈ p.fp, H' a = H a := fun p hp a ha => by
    cases q : H a with
    | none => exact absurd q (R.poff hp a ha).2
    | some u => exact R2.keep a u q (nO p hp a ha) (R.pnt hp a ha u q)
  have nn : ∀ p ∈ ps, ∀ a ∈ p.fp, Hf' a = none := fun p hp a ha => by
    by_cases q : Hf' a = none
    · exact q
    · rcases R2.new a q with z | z | z
      · exact absurd (R.poff hp a ha).1 z
      · cases hu : H a with
        | none => exact absurd hu (R.poff hp a ha).2
        | some u => exact absurd (R.pnt hp a ha u hu) (z u hu)
      · exact (nO p hp a ha z).elim
  -- what is held by the new ones is new or was the frame's
  have far : ∀ {a}, (NB ⟨Hf, H, fun a => ∃ i, a ∈ f i⟩ a ∨ ∃ i, a ∈ f i) → ∀ q ∈ ps, a ∉ q.fp := fun {a} h q hq ha => by
    rcases h with h | h
    · cases hu : H a with
      | none => exact (R.poff hq a ha).2 hu
      | some u => exact h u hu (R.pnt hq a ha u hu)
    · exact nO q hq a ha h
  have bo : ∀ {a}, (NB ⟨Hf, H, fun a => ∃ i, a ∈ f i⟩ a ∨ ∃ i, a ∈ f i) → NB B a ∨ B.O a := fun {a} h => by
    rcases h with h | ⟨i, h⟩
    · by_cases hO : B.O a
      · exact .inr hO
      · exact .inl fun o h2 h3 => h o (R.keep a o h2 hO h3) h3
    · exact R.own i a h
  refine ⟨R2.len, R2.sub, R2.slot, R2.out, R2.disj, fun p hp => ?_, ?_, fun p hp => ?_, R.ex.trans R2.ex, fun a u h1 h2 h3 => ?_, fun a o h1 h2 => ?_, fun a h1 => ?_, fun i a ha => bo (R2.own i a ha), fun p hp a ha => ?_, R2.tab⟩
  · rcases List.mem_append.mp hp with hp | hp
    · exact R2.pend p hp
    · have q := (R.pend p hp).stay (fun b hb => kk p hp b hb) R2.ex (fun b hb => nn p hp b hb)
      rcases hσ with z | z
      · rw [z] at hp; cases hp
      · rw [z]; exact q
  · refine List.pairwise_append.mpr ⟨R2.pdis, R.pdis, fun p hp q hq a ha => far (R2.pown p hp a ha) q hq⟩
  · rcases List.mem_append.mp hp with hp | hp
    · exact R2.psl p hp
    · exact fun a ha i hi => far (R2.own i a hi) p hp ha
  · by_cases q : ∃ i, a ∈ f i
    · obtain ⟨i, hi⟩ := q
      rcases R.own i a hi with z | z
      · exact absurd h3 (z u h1)
      · exact absurd z h2
    · exact R2.keep a u (R.keep a u h1 h2 h3) q h3
  · obtain ⟨u, h3, h4⟩ := R.dom a o h1 h2
    exact R2.dom a u h3 h4
  · rcases R2.new a h1 with z | z | z
    · exact R.new a z
    · exact .inr (bo (.inl z))
    · exact .inr (bo (.inr z))
  · rcases List.mem_append.mp hp with hp | hp
    · exact bo (R2.pown p hp a ha)
    · exact R.pown p hp a ha
/-- a new base -/
theorem ReachF.base (R : ReachF K B Hf H σ Γ f ps) : ReachF K ⟨Hf, H, fun a => ∃ i, a ∈ f i⟩ Hf H σ Γ f [] :=
  ⟨R.len, R.sub, R.slot, R.out, R.disj, by simp, by simp, by simp, Evl.Ex.refl _, fun _ _ h _ _ => h, fun _ o h n => ⟨o, h, n⟩, fun _ h => .inl h, fun i a h => .inr ⟨i, h⟩, by simp, R.tab⟩
/-- forgetting a slot -/
theorem ReachF.forget {i : Nat} (R : ReachF K B Hf H σ Γ f ps) (hl : i < Γ.length) : ReachF K B Hf H σ (Γ.set i .no) (fun j => if j = i then [] else f j) ps := by
  refine ⟨by rw [List.length_set]; exact R.len, R.sub, fun j g hj => ?_, fun j hj => ?_, fun j k a ha hb => ?_, R.pend, R.pdis, fun q hq a ha j hb => ?_, R.ex, R.keep, R.dom, R.new, fun j a ha => ?_, R.pown, R.tab⟩
  · by_cases ej : j = i
    · subst ej
      rw [List.getElem?_set_self hl] at hj
      cases hj
      simp [SlotOk]
    · rw [List.getElem?_set_ne (Ne.symm ej)] at hj
      simp only [ej, if_false]
      exact R.slot j g hj
  · by_cases ej : j = i
    · simp [ej]
    · rw [List.getElem?_set_ne (Ne.symm ej)] at hj
      simp only [ej, if_false]
      exact R.out j hj
  · by_cases ej : j = i
    · simp [ej] at ha
    · by_cases ek : k = i
      · simp [ek] at hb
      · simp only [ej, ek, if_false] at ha hb
        exact R.disj j k a ha hb
  · by_cases ej : j = i
    · simp [ej] at hb
    · simp only [ej, if_false] at hb
      exact R.psl q hq a ha j hb
  · by_cases ej : j = i
    · simp [ej] at ha
    · simp only [ej, if_false] at ha
      exact R.own j a ha
/-- what a slot may be given -/
def keepable : Slot → Bool
  | .d _ => true
  | .own _ => true
  | .fn _ => true
  | _ => false
/-- the last held value into a slot; the others may not lean on the slots -/
theorem ReachF.store {i : Nat} (R : ReachF K B Hf H σ Γ f (⟨v, s, fp⟩ :: ps)) (hl : i < Γ.length) (ks : keepable s = true) (hp : ∀ p ∈ ps, ∀ j, p.s = .bor j → j ≠ i) :
    ReachF K B Hf H (σ.set i (some v)) (Γ.set i s) (fun j => if j = i then fp else f j) ps := by
  have hls : i < σ.length := by rw [R.len]; exact hl
  have pd := List.pairwise_cons.mp R.pdis
  have P0 : PendOk K Hf H σ v s fp := R.pend _ List.mem_cons_self
  have psl0 : ∀ a ∈ fp, ∀ i, a ∉ f i := R.psl _ List.mem_cons_self
  refine ⟨by rw [List.length_set, List.length_set]; exact R.len, R.sub, fun j g hj => ?_, fun j hj => ?_, fun j k a ha hb => ?_, fun q hq => ?_, pd.2, fun q hq a ha j hb => ?_, R.ex, R.keep, R.dom, R.new, fun j a ha => ?_, fun q hq => R.pown q (List.mem_cons_of_mem _ hq), R.tab⟩
  · by_cases ej : j = i
    · subst ej
      rw [List.getElem?_set_self hl] at hj
      cases hj
      simp only [if_true, List.getElem?_set_self hls]
      cases s with
      | no => cases ks
      | d x => exact ⟨P0.1, v, rfl, P0.2⟩
      | own o => obtain ⟨a, e, q⟩ := P0; exact ⟨a, by rw [e], q⟩
      | bor k => cases ks
      | fn a => exact ⟨P0.1, by rw [P0.2]⟩
    · rw [List.getElem?_set_ne (Ne.symm ej)] at hj
      simp only [ej, if_false, List.getElem?_set_ne (Ne.symm ej)]
      exact R.slot j g hj
  · by_cases ej : j = i
    · subst ej
      rw [List.getElem?_set_self hl] at hj
      cases hj
    · rw [List.getElem?_set_ne (Ne.symm ej)] at hj
      simp only [ej, if_false]
      exact R.out j hj
  · by_cases ej : j = i
    · by_cases ek : k = i
      · rw [ej, ek]
      · simp only [ej, ek, if_true, if_false] at ha hb
        exact absurd hb (psl0 a ha k)
    · by_cases ek : k = i
      · simp only [ej, ek, if_true, if_false] at ha hb
        exact absurd ha (psl0 a hb j)
      · simp only [ej, ek, if_false] at ha hb
        exact R.disj j k a ha hb
  · have q0 := R.pend q (List.mem_cons_of_mem _ hq)
    obtain ⟨w, t, gp⟩ := q
    cases t with
    | bor j =>
      refine ⟨q0.1, ?_⟩
      rw [List.getElem?_set_ne (Ne.symm (hp _ hq j rfl))]
      exact q0.2
    | no => exact q0
    | d x => exact q0
    | own o => exact q0
    | fn a => exact q0
  · by_cases ej : j = i
    · simp only [ej, if_true] at hb
      exact pd.1 q hq a hb ha
    · simp only [ej, if_false] at hb
      exact R.psl q (List.mem_cons_of_mem _ hq) a ha j hb
  · by_cases ej : j = i
    · simp only [ej, if_true] at ha
      exact R.pown _ List.mem_cons_self a ha
    · simp only [ej, if_false] at ha
      exact R.own j a ha
omit [TabsC] in
theorem own_nc0 (h : OwnAt K Hf H a o fp) : ∀ b ∈ fp, ∀ {u}, H b = some u → ∀ c q, u ≠ LamX.CodeO c q := by
  intro b hb u hu c q z
  cases o with
  | lst l =>
    obtain ⟨e, h1, xs, h2, _⟩ := h
    subst e
    obtain rfl : b = a := by simpa using hb
    rw [h2] at hu
    cases hu
    unfold LamX.CodeO at z
    cases z
  | dct l =>
    obtain ⟨e, h1, xs, h2, _⟩ := h
    subst e
    obtain rfl : b = a := by simpa using hb
    rw [h2] at hu
    cases hu
    unfold LamX.CodeO at z
    cases z
omit [TabsC] in
theorem own_nc {ov : Option (Option V)} (h : SlotOk K Hf H ov (.own o) fp) : ∀ b ∈ fp, ∀ {u}, H b = some u → ∀ c q, u ≠ LamX.CodeO c q := by
  obtain ⟨a, _, h⟩ := h
  exact own_nc0 h
omit [TabsC] in
theorem own_ncP (h : PendOk K Hf H σ v (.own o) fp) : ∀ b ∈ fp, ∀ {u}, H b = some u → ∀ c q, u ≠ LamX.CodeO c q := by
  obtain ⟨a, _, h⟩ := h
  exact own_nc0 h
/-- a list that a slot owns is written -/
theorem ReachF.writeS {i : Nat} {o o' : Own} {u : HO} (R : ReachF K B Hf H σ Γ f ps) (hi : Γ[i]? = some (.own o)) (hs : σ[i]? = some (some (.ref a))) (hw : OwnAt K Hf (upd H a u) a o' [a]) (h1 : f i = [a]) :
    ReachF K B Hf (upd H a u) σ (Γ.set i (.own o')) f ps := by
  have hil : i < Γ.length := (List.getElem?_eq_some_iff.mp hi).1
  have ha : a ∈ f i := by rw [h1]; simp
  have na : ∀ j, j ≠ i → a ∉ f j := fun j hj hb => hj (R.disj j i a hb ha)
  have np : ∀ p ∈ ps, a ∉ p.fp := fun p hp hb => R.psl p hp a hb i ha
  have kk : ∀ b, b ≠ a → upd H a u b = H b := fun b hb => upd_ne hb
  refine ⟨by rw [List.length_set]; exact R.len, fun b z q => ?_, fun j g hj => ?_, fun j hj => ?_, R.disj, fun p hp => ?_, R.pdis, R.psl, R.ex, fun b z q nO nt => ?_, fun b o1 hb1 hb => ?_, R.new, R.own, R.pown, R.tab.1, tabs_upd R.tab.2 fun o ho => ⟨R.nt i a ha o ho, own_nc (R.slot i _ hi) a ha ho⟩⟩
  · have hne : b ≠ a := fun e => by
      rw [e, (R.off i a ha).1] at q; cases q
    rw [kk b hne]; exact R.sub b z q
  · by_cases ej : j = i
    · subst ej
      rw [List.getElem?_set_self hil] at hj
      cases hj
      rw [h1]
      exact ⟨a, hs, hw⟩
    · rw [List.getElem?_set_ne (Ne.symm ej)] at hj
      exact (R.slot j g hj).stay (fun b hb => kk b fun e => na j ej (e ▸ hb)) (Evl.Ex.refl _) fun b hb => (R.off j b hb).1
  · by_cases ej : j = i
    · subst ej
      rw [List.getElem?_set_self hil] at hj
      cases hj
    · rw [List.getElem?_set_ne (Ne.symm ej)] at hj
      exact R.out j hj
  · exact (R.pend p hp).stay (fun b hb => kk b fun e => np p hp (e ▸ hb)) (Evl.Ex.refl _) fun b hb => (R.poff hp b hb).1
  · have hne : b ≠ a := fun e => by
      subst e
      rcases R.own i b ha with z' | z'
      · exact absurd nt (z' z q)
      · exact nO z'
    rw [kk b hne]; exact R.keep b z q nO nt
  · by_cases hne : b = a
    · exact ⟨u, by rw [hne, upd_same], hw.nt a (by simp) u upd_same⟩
    · rw [kk b hne]; exact R.dom b o1 hb1 hb
/-- the last held list is written -/
theorem ReachF.writeP {o o' : Own} {u : HO} (R : ReachF K B Hf H σ Γ f (⟨.ref a, .own o, [a]⟩ :: ps)) (hw : OwnAt K Hf (upd H a u) a o' [a]) :
    ReachF K B Hf (upd H a u) σ Γ f (⟨.ref a, .own o', [a]⟩ :: ps) := by
  have pd := List.pairwise_cons.mp R.pdis
  have na : ∀ j, a ∉ f j := fun j => R.psl _ List.mem_cons_self a (by simp) j
  have np : ∀ p ∈ ps, a ∉ p.fp := fun p hp => pd.1 p hp a (by simp)
  have kk : ∀ b, b ≠ a → upd H a u b = H b := fun b hb => upd_ne hb
  have off := R.poff List.mem_cons_self a (by simp)
  refine ⟨R.len, fun b z q => ?_, fun j g hj => ?_, R.out, R.disj, fun p hp => ?_, ?_, fun p hp => ?_, R.ex, fun b z q nO nt => ?_, fun b o1 hb1 hb => ?_, R.new, R.own, fun p hp => ?_, R.tab.1, tabs_upd R.tab.2 fun o ho => ⟨R.pnt List.mem_cons_self a (by simp) o ho, own_ncP (R.pend _ List.mem_cons_self) a (by simp) ho⟩⟩
  · have hne : b ≠ a := fun e => by
      rw [e, off.1] at q; cases q
    rw [kk b hne]; exact R.sub b z q
  · exact (R.slot j g hj).stay (fun b hb => kk b fun e => na j (e ▸ hb)) (Evl.Ex.refl _) fun b hb => (R.off j b hb).1
  · rcases List.mem_cons.mp hp with rfl | hp
    · exact ⟨a, rfl, hw⟩
    · exact (R.pend p (List.mem_cons_of_mem _ hp)).stay (fun b hb => kk b fun e => np p hp (e ▸ hb)) (Evl.Ex.refl _) fun b hb => (R.poff (List.mem_cons_of_mem _ hp) b hb).1
  · exact List.pairwise_cons.mpr ⟨pd.1, pd.2⟩
  · rcases List.mem_cons.mp hp with rfl | hp
    · exact R.psl ⟨.ref a, .own o, [a]⟩ List.mem_cons_self
    · exact R.psl p (List.mem_cons_of_mem _ hp)
  · have hne : b ≠ a := fun e => by
      subst e
      rcases R.pown _ List.mem_cons_self b (by simp) with z' | z'
      · exact absurd nt (z' z q)
      · exact nO z'
    rw [kk b hne]; exact R.keep b z q nO nt
  · by_cases hne : b = a
    · exact ⟨u, by rw [hne, upd_same], hw.nt a (by simp) u upd_same⟩
    · rw [kk b hne]; exact R.dom b o1 hb1 hb
  · rcases List.mem_cons.mp hp with rfl | hp
    · exact R.pown ⟨.ref a, .own o, [a]⟩ List.mem_cons_self
    · exact R.pown p (List.mem_cons_of_mem _ hp)
end

/-! ### the readings -/
section
variable [TabsC] (K : PySem.W.Frag)
/-- an expression evaluates as m says -/
def tM (m : M) : TE := fun σ H Q => ∃ B Hf Γ ps r Γ', Reach K B Hf H σ Γ ps ∧ m Γ = some (r, Γ') ∧ ∀ v fp Hf' H', Reach K B Hf' H' σ Γ' (⟨v, r, fp⟩ :: ps) → Q v H'
abbrev MT := Env → Option (Bool × Env)
/-- a test -/
def tT (m : MT) : TT := fun σ H Q => ∃ B Hf Γ ps r Γ', Reach K B Hf H σ Γ ps ∧ m Γ = some (r, Γ') ∧ ∀ Hf' H', Reach K B Hf' H' σ Γ' ps → Q r H'
abbrev MA := Env → Option (List Slot × Env)
/-- what is held of a row of values, the last one first -/
inductive Held : List V → List Slot → List Pend → Prop
  | nil : Held [] [] []
  | snoc {vs : List V} {ss : List Slot} {ps : List Pend} {v : V} {s : Slot} {fp : List Addr} : Held vs ss ps → Held (vs ++ [v]) (ss ++ [s]) (⟨v, s, fp⟩ :: ps)
/-- a row of arguments: held values -/
def tA (m : MA) : TA := fun σ H Q => ∃ B Hf Γ ps r Γ', Reach K B Hf H σ Γ ps ∧ m Γ = some (r, Γ') ∧ ∀ vs qs Hf' H', Held vs r qs → Reach K B Hf' H' σ Γ' (qs ++ ps) → Q vs H'
/-- a row of data, all frozen -/
abbrev MD := Env → Option (List Dat × Env)
def tAD (m : MD) : TA := fun σ H Q => ∃ B Hf Γ ps r Γ', Reach K B Hf H σ Γ ps ∧ m Γ = some (r, Γ') ∧ ∀ vs Hf' H', Dens K Hf' vs r → Reach K B Hf' H' σ Γ' ps → Q vs H'
inductive Flw where
  | nx
  | ret (s : Slot)
  | bk
  | ct
abbrev MS := Env → Option (Flw × Env)
/-- what stays of the slots where those of W may be stored -/
def Stay (W : List Nat) (σ σ' : St) : Prop := ∀ i, i ∉ W → σ'[i]? = σ[i]?
def Ends.of (D : Ends) (W : List Nat) (σ : St) (B : Base) (Γ' : Env) : Flw → Prop
  | .nx => ∀ σ' Hf' H', Stay W σ σ' → Reach K B Hf' H' σ' Γ' [] → D.nx σ' H'
  | .ret r => ∀ σ' v fp Hf' H', Stay W σ σ' → Reach K B Hf' H' σ' Γ' [⟨v, r, fp⟩] → D.rt v H'
  | .bk => ∀ σ' Hf' H', Stay W σ σ' → Reach K B Hf' H' σ' Γ' [] → D.bk σ' H'
  | .ct => ∀ σ' Hf' H', Stay W σ σ' → Reach K B Hf' H' σ' Γ' [] → D.ct σ' H'
def tS (W : List Nat) (m : MS) : TS := fun D σ H => ∃ B Hf Γ fl Γ', Reach K B Hf H σ Γ [] ∧ m Γ = some (fl, Γ') ∧ Ends.of K D W σ B Γ' fl
end
theorem Stay.refl (W : List Nat) (σ : St) : Stay W σ σ := fun _ _ => rfl
theorem Stay.trans {W : List Nat} {a b c : St} (h : Stay W a b) (k : Stay W b c) : Stay W a c := fun i hi => (k i hi).trans (h i hi)
theorem Stay.mono {W W' : List Nat} {a b : St} (h : Stay W a b) (k : ∀ i, i ∈ W → i ∈ W') : Stay W' a b := fun i hi => h i fun z => hi (k i z)
end DL

set_option Elab.async false
set_option linter.all false
set_option maxRecDepth 100000
set_option maxHeartbeats 4000000
namespace DL
open PySem L2
variable [TabsC]
/-- what every rule asks of where it stands -/
structure Cok (k : Nat) (X : Cx) : Prop where
  calm : X.calm = true
  room : Room k X.A
  nd : X.N.Nodup
theorem Cok.hu {k : Nat} {X : Cx} (h : Cok k X) : X.A.units + 64 < cLine := h.room.units
theorem Cok.blk {k : Nat} {X : Cx} (h : Cok k X) (s : Shared) (H : Hp) (sc : Scope) (ce : PySem.Env) (fp : List Addr) : Cok k (X.blk s H sc ce fp) := ⟨h.calm, h.room, h.nd⟩
section
variable {X : Cx} {K : PySem.W.Frag} {a b e : Expr} {ma mb mc : M} {mt mu : MT} {pos : Pos}
theorem PE.imp {e : Expr} {t t' : TE} (h : PE X e t) (i : ∀ σ H Q, t' σ H Q → t σ H Q) : PE X e t' := ⟨fun pins s σ H Q I q => h.run pins s σ H Q I (i σ H Q q)⟩
theorem PT.imp {e : Expr} {t t' : TT} (h : PT X e t) (i : ∀ σ H Q, t' σ H Q → t σ H Q) : PT X e t' := ⟨fun pins s σ H Q I q => h.run pins s σ H Q I (i σ H Q q)⟩
theorem PW.imp {e : Expr} {t t' : TT} (h : PW X e t) (i : ∀ σ H Q, t' σ H Q → t σ H Q) : PW X e t' := ⟨fun wh pins s σ H Q I q => h.run wh pins s σ H Q I (i σ H Q q)⟩
theorem PA.imp {es : List Expr} {t t' : TA} (h : PA X es t) (i : ∀ σ H Q, t' σ H Q → t σ H Q) : PA X es t' := ⟨fun p pins s σ H Q I q => h.run p pins s σ H Q I (i σ H Q q)⟩
theorem PS.imp {st : Stmt} {t t' : TS} (h : PS X st t) (i : ∀ D σ H, t' D σ H → t D σ H) : PS X st t' := ⟨fun pins s σ H D I q => h.run pins s σ H D I (i D σ H q)⟩
theorem PSs.imp {st : List Stmt} {t t' : TS} (h : PSs X st t) (i : ∀ D σ H, t' D σ H → t D σ H) : PSs X st t' := ⟨fun pins s σ H D I q => h.run pins s σ H D I (i D σ H q)⟩
theorem bindE {α β : Type} {o : Option α} {g : α → Option β} {y : β} (h : o.bind g = some y) : ∃ x, o = some x ∧ g x = some y := Option.bind_eq_some_iff.mp h

/-! ### names, constants -/
def mVar (i : Nat) : M := fun Γ => match Γ[i]? with
  | some (.d x) => some (.d x, Γ)
  | some (.own _) => some (.bor i, Γ)
  | some (.fn a) => some (.fn a, Γ)
  | _ => none
theorem var_imp {i : Nat} {σ : St} {H : Hp} {Q : VK} (h : tM K (mVar i) σ H Q) : tVar i σ H Q := by
  obtain ⟨B, Hf, Γ, ps, r, Γ', ⟨f, R⟩, e, k⟩ := h
  simp only [mVar] at e
  split at e
  · rename_i x hx
    simp only [Option.some.injEq, Prod.mk.injEq] at e
    obtain ⟨rfl, rfl⟩ := e
    obtain ⟨_, v, e1, q⟩ := R.slot i _ hx
    exact ⟨v, e1, k v [] Hf H ⟨f, R.pushD q⟩⟩
  · rename_i o ho
    simp only [Option.some.injEq, Prod.mk.injEq] at e
    obtain ⟨rfl, rfl⟩ := e
    obtain ⟨a, e1, q⟩ := R.slot i _ ho
    exact ⟨_, e1, k (.ref a) [] Hf H ⟨f, R.push ⟨rfl, e1⟩ (by simp) (by simp)⟩⟩
  · rename_i a ha
    simp only [Option.some.injEq, Prod.mk.injEq] at e
    obtain ⟨rfl, rfl⟩ := e
    obtain ⟨_, e1⟩ := R.slot i _ ha
    exact ⟨_, e1, k (.ref a) [] Hf H ⟨f, R.push ⟨rfl, rfl⟩ (by simp) (by simp)⟩⟩
  · cases e
theorem d_var (i : Nat) {x : Str} (hN : X.N[i]? = some x := by rfl) (hv : Vis X.env.scope x := by first | exact Or.inl rfl | exact Or.inr (Or.inl rfl) | exact Or.inr (Or.inr rfl)) (hd : (x == ("__debug__" : Str)) = false := by decide)
    (hcd : (x == ("__classdict__" : Str)) = false := by decide) : PE X (.Name x pos) (tM X.K (mVar i)) :=
  PE.imp (pe_var hN hv hd hcd) fun _ _ _ => var_imp
def mC (d : Dat) : M := fun Γ => some (.d d, Γ)
theorem c_imp {d : Dat} {v : V} (hv : ∀ H, Den K H v d) {σ : St} {H : Hp} {Q : VK} (h : tM K (mC d) σ H Q) : tC v σ H Q := by
  obtain ⟨B, Hf, Γ, ps, r, Γ', ⟨f, R⟩, e, k⟩ := h
  simp only [mC, Option.some.injEq, Prod.mk.injEq] at e
  obtain ⟨rfl, rfl⟩ := e
  exact k v [] Hf H ⟨f, R.pushD (hv Hf)⟩
theorem d_int {i j pos} : PE X (.Constant (.int i) j pos) (tM X.K (mC (.int i))) := PE.imp pe_int fun _ _ _ => c_imp fun _ => .int i
theorem d_bl {b j pos} : PE X (.Constant (.bool b) j pos) (tM X.K (mC (.bool b))) := PE.imp pe_bl fun _ _ _ => c_imp fun _ => .bl b
theorem d_non {j pos} : PE X (.Constant .none j pos) (tM X.K (mC .none)) := PE.imp pe_non fun _ _ _ => c_imp fun _ => .non
theorem d_str {x j pos} : PE X (.Constant (.str x) j pos) (tM X.K (mC (.str x))) := PE.imp pe_str fun _ _ _ => c_imp fun _ => .str x
/-- a module's constant -/
theorem d_glob {x : Str} {v : V} {u : Value} {d : Dat} (hm : X.mg x = some u) (r : RelV v u) (hv : ∀ H, Den X.K H v d) (hg : Gl X x := by rfl) (hd : (x == ("__debug__" : Str)) = false := by decide) : PE X (.Name x pos) (tM X.K (mC d)) :=
  PE.imp (pe_glob hg hm r hd) fun _ _ _ => c_imp hv
/-- a module's def as a value -/
def mFn (a : Addr) : M := fun Γ => some (.fn a, Γ)
theorem d_fn {x : Str} {f : Addr} (hm : X.mg x = some (.ref f)) (hg : Gl X x := by rfl) (hd : (x == ("__debug__" : Str)) = false := by decide) : PE X (.Name x pos) (tM X.K (mFn f)) :=
  PE.imp (pe_glob (v := .ref f) hg hm rfl hd) fun σ H Q h => by
    obtain ⟨B, Hf, Γ, ps, r, Γ', ⟨f, R⟩, e, k⟩ := h
    simp only [mFn, Option.some.injEq, Prod.mk.injEq] at e
    obtain ⟨rfl, rfl⟩ := e
    exact k _ [] Hf H ⟨f, R.push ⟨rfl, rfl⟩ (by simp) (by simp)⟩

/-! ### two operands -/
def mBin (g : Slot → Slot → Env → Option (Slot × Env)) (ma mb : M) : M := fun Γ => (ma Γ).bind fun p => (mb p.2).bind fun q => g p.1 q.1 q.2
def R2M (K : PySem.W.Frag) (r : R2) (g : Slot → Slot → Env → Option (Slot × Env)) : Prop :=
  ∀ B Hf H σ Γ ps x y s1 s2 fp1 fp2 res Γ', Reach K B Hf H σ Γ (⟨y, s2, fp2⟩ :: ⟨x, s1, fp1⟩ :: ps) → g s1 s2 Γ = some (res, Γ') →
    ∀ Q : VK, (∀ v fp Hf' H', Reach K B Hf' H' σ Γ' (⟨v, res, fp⟩ :: ps) → Q v H') → r x y H Q
theorem op_imp {r : R2} {g : Slot → Slot → Env → Option (Slot × Env)} (hr : R2M K r g) {σ : St} {H : Hp} {Q : VK} (h : tM K (mBin g ma mb) σ H Q) : tOp r (tM K ma) (tM K mb) σ H Q := by
  obtain ⟨B, Hf, Γ, ps, r, Γ', R, e, k⟩ := h
  obtain ⟨⟨s1, Γ1⟩, e1, e⟩ := bindE e
  obtain ⟨⟨s2, Γ2⟩, e2, e⟩ := bindE e
  exact ⟨B, Hf, Γ, ps, s1, Γ1, R, e1, fun x fp1 Hf1 H1 R1 => ⟨B, Hf1, Γ1, _, s2, Γ2, R1, e2, fun y fp2 Hf2 H2 R2 => hr B Hf2 H2 σ Γ2 ps x y s1 s2 fp1 fp2 _ _ R2 e Q k⟩⟩
theorem d_op {op : Operator} {r : R2} {g : Slot → Slot → Env → Option (Slot × Env)} (ho : OpR X (binaryOp op) r) (hr : R2M X.K r g) (ha : PE X a (tM X.K ma)) (hb : PE X b (tM X.K mb)) : PE X (.BinOp a op b pos) (tM X.K (mBin g ma mb)) :=
  PE.imp (pe_op ho ha hb) fun _ _ _ => op_imp hr
theorem d_cmp {op : CmpOp} {r : R2} {g : Slot → Slot → Env → Option (Slot × Env)} (ho : OpR X (compareOp op) r) (hr : R2M X.K r g) (ha : PE X a (tM X.K ma)) (hb : PE X b (tM X.K mb)) (hm : behindInMarks op b = false) : PE X (.Compare a [op] [b] pos) (tM X.K (mBin g ma mb)) :=
  PE.imp (pe_cmpR ho ha hb hm) fun _ _ _ => op_imp hr
/-- a bool as a test -/
def mB (m : M) : MT := fun Γ => (m Γ).bind fun p => match p.1 with
  | .d (.bool b) => some (b, p.2)
  | _ => none
theorem mB_some {m : M} {Γ Γ' : Env} {b : Bool} (h : mB m Γ = some (b, Γ')) : m Γ = some (.d (.bool b), Γ') := by
  obtain ⟨⟨s, Γ1⟩, e1, e⟩ := bindE h
  revert e
  cases s with
  | d x =>
    cases x <;> intro e <;> simp only [Option.some.injEq, Prod.mk.injEq, reduceCtorEq] at e
    obtain ⟨rfl, rfl⟩ := e
    exact e1
  | _ => intro e; cases e
theorem b_imp {m : M} {t : TE} (i : ∀ σ H Q, tM K m σ H Q → t σ H Q) {σ : St} {H : Hp} {Q : Bool → Hp → Prop} (h : tT K (mB m) σ H Q) : t σ H fun x H' => ∃ k, x = .bl k ∧ Q k H' := by
  obtain ⟨B, Hf, Γ, ps, r, Γ', R, e, k⟩ := h
  refine i _ _ _ ⟨B, Hf, Γ, ps, _, Γ', R, mB_some e, fun v fp Hf' H' R' => ?_⟩
  obtain ⟨f, R'⟩ := R'
  have q := (R'.pend _ List.mem_cons_self).2
  cases q
  exact ⟨r, rfl, k Hf' H' ⟨f, R'.pop⟩⟩
theorem dt_cmp {op : CmpOp} {r : R2} {g : Slot → Slot → Env → Option (Slot × Env)} (ho : OpR X (compareOp op) r) (hr : R2M X.K r g) (ha : PE X a (tM X.K ma)) (hb : PE X b (tM X.K mb)) (hm : behindInMarks op b = false) : PT X (.Compare a [op] [b] pos) (tT X.K (mB (mBin g ma mb))) :=
  PT.imp (pt_cmpR ho ha hb hm) fun _ _ _ => b_imp fun _ _ _ => op_imp hr
/-- results without an object -/
def gSc (g : Dat → Dat → Option Dat) : Slot → Slot → Env → Option (Slot × Env) := fun s1 s2 Γ => (viewD Γ s1).bind fun d => (viewD Γ s2).bind fun e => (g d e).bind fun z => some (.d z, Γ)
theorem r2_sc {r : R2} {g : Dat → Dat → Option Dat} (h : ∀ H x y d e z, Den K H x d → Den K H y e → g d e = some z → ∃ zv, scV z = some zv ∧ ∀ Q : VK, Q zv H → r x y H Q) : R2M K r (gSc g) := by
  intro B Hf H σ Γ ps x y s1 s2 fp1 fp2 res Γ' ⟨f, R⟩ e Q k
  obtain ⟨d, e1, e⟩ := bindE e
  obtain ⟨d2, e2, e⟩ := bindE e
  obtain ⟨z, e3, e⟩ := bindE e
  simp only [Option.some.injEq, Prod.mk.injEq] at e
  obtain ⟨rfl, rfl⟩ := e
  obtain ⟨zv, q1, q2⟩ := h H x y d d2 z (R.viewP (p := ⟨x, s1, fp1⟩) (by simp) e1) (R.viewP (p := ⟨y, s2, fp2⟩) (by simp) e2) e3
  exact q2 Q (k zv [] Hf H ⟨f, R.pop.pop.pushD (scV_den q1)⟩)
/-- integers -/
def iD (g : Int → Int → Dat) : Dat → Dat → Option Dat
  | .int i, .int j => some (g i j)
  | _, _ => none
def iDC (C : Int → Int → Bool) (g : Int → Int → Dat) : Dat → Dat → Option Dat
  | .int i, .int j => if C i j then some (g i j) else none
  | _, _ => none
theorem r2_int {g : Int → Int → V} {gd : Int → Int → Dat} (hg : ∀ i j, scV (gd i j) = some (g i j)) : R2M K (rI0 g) (gSc (iD gd)) := by
  refine r2_sc fun H x y d e z hx hy h => ?_
  cases d <;> cases e <;> simp only [iD, Option.some.injEq, reduceCtorEq] at h
  subst h
  cases hx
  cases hy
  exact ⟨_, hg _ _, fun Q q => ⟨_, _, rfl, rfl, q⟩⟩
theorem r2_intC {C : Int → Int → Prop} {Cb : Int → Int → Bool} {g : Int → Int → V} {gd : Int → Int → Dat} (hc : ∀ i j, Cb i j = true → C i j) (hg : ∀ i j, scV (gd i j) = some (g i j)) : R2M K (rI C g) (gSc (iDC Cb gd)) := by
  refine r2_sc fun H x y d e z hx hy h => ?_
  cases d <;> cases e <;> simp only [iDC, reduceCtorEq] at h
  split at h
  · rename_i hC
    simp only [Option.some.injEq] at h
    subst h
    cases hx
    cases hy
    exact ⟨_, hg _ _, fun Q q => ⟨_, _, rfl, rfl, hc _ _ hC, q⟩⟩
  · cases h
abbrev gSub := gSc (iD fun i j => .int (i - j))
abbrev gLt := gSc (iD fun i j => .bool (decide (i < j)))
abbrev gLe := gSc (iD fun i j => .bool (decide (i ≤ j)))
abbrev gGt := gSc (iD fun i j => .bool (decide (j < i)))
abbrev gGe := gSc (iD fun i j => .bool (decide (j ≤ i)))
def fdC (i j : Int) : Bool := decide (j ≠ 0) && decide (j.natAbs < 1073741824)
def mdC (i j : Int) : Bool := decide (j ≠ 0)
def pwC (i j : Int) : Bool := decide (0 ≤ j) && decide (j ≤ 1000000) && decide (i.natAbs < 2 ^ 64)
abbrev gFdiv := gSc (iDC fdC fun i j => .int (i.fdiv j))
abbrev gMod := gSc (iDC mdC fun i j => .int (i.fmod j))
abbrev gPow := gSc (iDC pwC fun i j => .int (i ^ j.toNat))
theorem d_sub (ha : PE X a (tM X.K ma)) (hb : PE X b (tM X.K mb)) : PE X (.BinOp a .Sub b pos) (tM X.K (mBin gSub ma mb)) := d_op op_sub (r2_int fun _ _ => rfl) ha hb
theorem d_fdiv (ha : PE X a (tM X.K ma)) (hb : PE X b (tM X.K mb)) : PE X (.BinOp a .FloorDiv b pos) (tM X.K (mBin gFdiv ma mb)) :=
  d_op op_fdivN (r2_intC (fun i j h => by simpa [fdC, CDivN] using h) fun _ _ => rfl) ha hb
theorem d_mod (ha : PE X a (tM X.K ma)) (hb : PE X b (tM X.K mb)) : PE X (.BinOp a .Mod b pos) (tM X.K (mBin gMod ma mb)) :=
  d_op op_modN (r2_intC (fun i j h => by simpa [mdC] using h) fun _ _ => rfl) ha hb
theorem d_pow (ha : PE X a (tM X.K ma)) (hb : PE X b (tM X.K mb)) : PE X (.BinOp a .Pow b pos) (tM X.K (mBin gPow ma mb)) :=
  d_op op_pow (r2_intC (fun i j h => by simp only [pwC, Bool.and_eq_true, decide_eq_true_eq] at h; exact ⟨h.1.1, h.1.2, h.2⟩) fun _ _ => rfl) ha hb
theorem d_lt (ha : PE X a (tM X.K ma)) (hb : PE X b (tM X.K mb)) : PE X (.Compare a [.Lt] [b] pos) (tM X.K (mBin gLt ma mb)) := d_cmp op_lt (r2_int fun _ _ => rfl) ha hb (nomark _)
theorem d_le (ha : PE X a (tM X.K ma)) (hb : PE X b (tM X.K mb)) : PE X (.Compare a [.LtE] [b] pos) (tM X.K (mBin gLe ma mb)) := d_cmp op_le (r2_int fun _ _ => rfl) ha hb (nomark _)
theorem d_gt (ha : PE X a (tM X.K ma)) (hb : PE X b (tM X.K mb)) : PE X (.Compare a [.Gt] [b] pos) (tM X.K (mBin gGt ma mb)) := d_cmp op_gt (r2_int fun _ _ => rfl) ha hb (nomark _)
theorem d_ge (ha : PE X a (tM X.K ma)) (hb : PE X b (tM X.K mb)) : PE X (.Compare a [.GtE] [b] pos) (tM X.K (mBin gGe ma mb)) := d_cmp op_ge (r2_int fun _ _ => rfl) ha hb (nomark _)
theorem dt_lt (ha : PE X a (tM X.K ma)) (hb : PE X b (tM X.K mb)) : PT X (.Compare a [.Lt] [b] pos) (tT X.K (mB (mBin gLt ma mb))) := dt_cmp op_lt (r2_int fun _ _ => rfl) ha hb (nomark _)
theorem dt_le (ha : PE X a (tM X.K ma)) (hb : PE X b (tM X.K mb)) : PT X (.Compare a [.LtE] [b] pos) (tT X.K (mB (mBin gLe ma mb))) := dt_cmp op_le (r2_int fun _ _ => rfl) ha hb (nomark _)
theorem dt_gt (ha : PE X a (tM X.K ma)) (hb : PE X b (tM X.K mb)) : PT X (.Compare a [.Gt] [b] pos) (tT X.K (mB (mBin gGt ma mb))) := dt_cmp op_gt (r2_int fun _ _ => rfl) ha hb (nomark _)
theorem dt_ge (ha : PE X a (tM X.K ma)) (hb : PE X b (tM X.K mb)) : PT X (.Compare a [.GtE] [b] pos) (tT X.K (mB (mBin gGe ma mb))) := dt_cmp op_ge (r2_int fun _ _ => rfl) ha hb (nomark _)
/-! == and != of data -/
theorem canLayAll {ds : List Dat} (h : PyData.canLayAll0 ds = true) : ∀ d ∈ ds, d.canLay0 = true := by
  induction ds with
  | nil => simp
  | cons d r ih =>
    have h' : d.canLay0 = true ∧ PyData.canLayAll0 r = true := by simpa [PyData.canLayAll0] using h
    intro x hx
    rcases List.mem_cons.mp hx with rfl | hx
    · exact h'.1
    · exact ih h'.2 x hx
mutual
theorem Den.dp {H : Hp} : ∀ {d : Dat} {v : V}, d.canLay0 = true → Den K H v d → Dp K H v d
  | .none, _, _, h => by cases h; exact .non
  | .bool _, _, _, h => by cases h; exact .bl _
  | .int _, _, _, h => by cases h; exact .int _
  | .str _, _, _, h => by cases h; exact .str _
  | .list ds, _, c, h => by cases h with | lst s r => exact .lst (.inl s) (Dens.dp (by simpa [PyData.canLay0] using c) r)
  | .tuple ds, _, c, h => by cases h with | tup s r => exact .tup s (Dens.dp (by simpa [PyData.canLay0] using c) r)
  | .dict ps, _, c, h => by simp [PyData.canLay0] at c
theorem Dens.dp {H : Hp} : ∀ {ds : List Dat} {vs : List V}, PyData.canLayAll0 ds = true → Dens K H vs ds → DpAll K H vs ds
  | [], _, _, h => by cases h; exact .nil
  | d :: ds, _, c, h => by
    have h' : d.canLay0 = true ∧ PyData.canLayAll0 ds = true := by simpa [PyData.canLayAll0] using c
    cases h with
    | cons a b => exact .cons (Den.dp h'.1 a) (Dens.dp h'.2 b)
end
def eqD (d e : Dat) : Option Dat := if SeqAt.shaped d && SeqAt.shaped e then some (.bool (PyData.eqv d e)) else none
def neD (d e : Dat) : Option Dat := if SeqAt.shaped d && SeqAt.shaped e then some (.bool (!PyData.eqv d e)) else none
theorem r2_eq : R2M K (rEqD K) (gSc eqD) := r2_sc fun H x y d e z hx hy h => by
  unfold eqD at h
  split at h
  · rename_i hs
    rw [Bool.and_eq_true] at hs
    cases h
    exact ⟨_, rfl, fun Q q => ⟨d, e, hx.dp (SeqAt.canLay_of_shaped hs.1), hy.dp (SeqAt.canLay_of_shaped hs.2), hs.1, hs.2, q⟩⟩
  · cases h
theorem r2_ne : R2M K (rNeD K) (gSc neD) := r2_sc fun H x y d e z hx hy h => by
  unfold neD at h
  split at h
  · rename_i hs
    rw [Bool.and_eq_true] at hs
    cases h
    exact ⟨_, rfl, fun Q q => ⟨d, e, hx.dp (SeqAt.canLay_of_shaped hs.1), hy.dp (SeqAt.canLay_of_shaped hs.2), hs.1, hs.2, q⟩⟩
  · cases h
abbrev gEq := gSc eqD
abbrev gNe := gSc neD
variable {k : Nat}
theorem d_eq (c : Cok k X) (ha : PE X a (tM X.K ma)) (hb : PE X b (tM X.K mb)) : PE X (.Compare a [.Eq] [b] pos) (tM X.K (mBin gEq ma mb)) := d_cmp (op_eqD c.hu) r2_eq ha hb (nomark _)
theorem d_ne (c : Cok k X) (ha : PE X a (tM X.K ma)) (hb : PE X b (tM X.K mb)) : PE X (.Compare a [.NotEq] [b] pos) (tM X.K (mBin gNe ma mb)) := d_cmp (op_neD c.hu) r2_ne ha hb (nomark _)
theorem dt_eq (c : Cok k X) (ha : PE X a (tM X.K ma)) (hb : PE X b (tM X.K mb)) : PT X (.Compare a [.Eq] [b] pos) (tT X.K (mB (mBin gEq ma mb))) := dt_cmp (op_eqD c.hu) r2_eq ha hb (nomark _)
theorem dt_ne (c : Cok k X) (ha : PE X a (tM X.K ma)) (hb : PE X b (tM X.K mb)) : PT X (.Compare a [.NotEq] [b] pos) (tT X.K (mB (mBin gNe ma mb))) := dt_cmp (op_neD c.hu) r2_ne ha hb (nomark _)
/-! in, not in: flat items of a list or tuple; data in a list -/
def flatD : Dat → Bool
  | .none => true
  | .bool _ => true
  | .int _ => true
  | .str _ => true
  | _ => false
theorem flat_den {H : Hp} {v : V} {d : Dat} (h : Den K H v d) (f : flatD d = true) : flatV v = true := by
  cases h <;> first | rfl | cases f
theorem flat_dens {H : Hp} : ∀ {ds : List Dat} {vs : List V}, Dens K H vs ds → ds.all flatD = true → vs.all flatV = true
  | _, _, .nil, _ => rfl
  | _, _, .cons a b, f => by
    rw [List.all_cons, Bool.and_eq_true] at f ⊢
    exact ⟨flat_den a f.1, flat_dens b f.2⟩
theorem eqV_eqv {H : Hp} {v w : V} {d e : Dat} (h : Den K H v d) (h2 : Den K H w e) (f : flatD d = true) (f2 : flatD e = true) : eqV v w = PyData.eqv d e := by
  cases h <;> cases h2 <;> first | rfl | cases f | cases f2
theorem inV_any {H : Hp} {x : V} {d : Dat} (h : Den K H x d) (f : flatD d = true) : ∀ {ds : List Dat} {vs : List V}, Dens K H vs ds → ds.all flatD = true → inV x vs = ds.any fun z => PyData.eqv z d
  | _, _, .nil, _ => rfl
  | _, _, .cons a b, g => by
    rw [List.all_cons, Bool.and_eq_true] at g
    have ih := inV_any h f b g.2
    unfold inV at ih ⊢
    rw [List.any_cons, List.any_cons, ih, eqV_eqv a h g.1 f]
def inD (neg : Bool) (d e : Dat) : Option Dat := (seqOf e).bind fun p =>
  if flatD d && p.2.all flatD then some (.bool (if neg then !(p.2.any fun z => PyData.eqv z d) else p.2.any fun z => PyData.eqv z d)) else none
theorem Den.seq {H : Hp} {v : V} {d : Dat} {b : Bool} {l : List Dat} (h : Den K H v d) (e : seqOf d = some (b, l)) : ∃ a xs, v = .ref a ∧ (SqL K H a xs ∨ SqT K H a xs) ∧ Dens K H xs l := by
  obtain ⟨a, xs, q1, q2, q3⟩ := h.items (Evl.Ex.refl _) e
  refine ⟨a, xs, q1, ?_, q3⟩
  cases b with
  | true => exact .inl (.inl (by simpa using q2))
  | false => exact .inr (by simpa using q2)
theorem r2_in {neg : Bool} : R2M K (rIn K neg) (gSc (inD neg)) := r2_sc fun H x y d e z hx hy h => by
  unfold inD at h
  obtain ⟨⟨bb, l⟩, e1, h⟩ := bindE h
  obtain ⟨a, xs, rfl, q2, q3⟩ := hy.seq e1
  split at h
  · rename_i hs
    rw [Bool.and_eq_true] at hs
    cases h
    have e4 := inV_any hx hs.1 q3 hs.2
    refine ⟨_, rfl, fun Q q => ⟨a, xs, rfl, q2, flat_den hx hs.1, flat_dens q3 hs.2, ?_⟩⟩
    rw [e4]
    exact q
  · cases h
abbrev gIn := gSc (inD false)
abbrev gNin := gSc (inD true)
theorem d_in (ha : PE X a (tM X.K ma)) (hb : PE X b (tM X.K mb)) (hm : behindInMarks .In b = false := by rfl) : PE X (.Compare a [.In] [b] pos) (tM X.K (mBin gIn ma mb)) := d_cmp op_in_seq r2_in ha hb hm
theorem d_nin (ha : PE X a (tM X.K ma)) (hb : PE X b (tM X.K mb)) (hm : behindInMarks .NotIn b = false := by rfl) : PE X (.Compare a [.NotIn] [b] pos) (tM X.K (mBin gNin ma mb)) := d_cmp op_notIn_seq r2_in ha hb hm
theorem dt_in (ha : PE X a (tM X.K ma)) (hb : PE X b (tM X.K mb)) (hm : behindInMarks .In b = false := by rfl) : PT X (.Compare a [.In] [b] pos) (tT X.K (mB (mBin gIn ma mb))) := dt_cmp op_in_seq r2_in ha hb hm
theorem dt_nin (ha : PE X a (tM X.K ma)) (hb : PE X b (tM X.K mb)) (hm : behindInMarks .NotIn b = false := by rfl) : PT X (.Compare a [.NotIn] [b] pos) (tT X.K (mB (mBin gNin ma mb))) := dt_cmp op_notIn_seq r2_in ha hb hm
end
end DL

set_option Elab.async false
set_option linter.all false
set_option maxRecDepth 100000
set_option maxHeartbeats 4000000
namespace DL
open PySem L2
variable [TabsC]
/-- the largest size of what is built here -/
abbrev lim : Nat := 1000000
theorem lim_le : lim ≤ sizeLine := by decide
section
variable {X : Cx} {K : PySem.W.Frag} {a b c e : Expr} {ma mb mc : M} {mt mu : MT} {pos : Pos} {k : Nat}

/-! ### one operand -/
def mUn (g : Slot → Env → Option (Slot × Env)) (ma : M) : M := fun Γ => (ma Γ).bind fun p => g p.1 p.2
def R1M (K : PySem.W.Frag) (r : V → Hp → VK → Prop) (g : Slot → Env → Option (Slot × Env)) : Prop :=
  ∀ B Hf H σ Γ ps x s fp res Γ', Reach K B Hf H σ Γ (⟨x, s, fp⟩ :: ps) → g s Γ = some (res, Γ') →
    ∀ Q : VK, (∀ v fp Hf' H', Reach K B Hf' H' σ Γ' (⟨v, res, fp⟩ :: ps) → Q v H') → r x H Q
theorem un_imp {r : V → Hp → VK → Prop} {g : Slot → Env → Option (Slot × Env)} (hr : R1M K r g) {σ : St} {H : Hp} {Q : VK} (h : tM K (mUn g ma) σ H Q) : tUn r (tM K ma) σ H Q := by
  obtain ⟨B, Hf, Γ, ps, r, Γ', R, e, k⟩ := h
  obtain ⟨⟨s1, Γ1⟩, e1, e⟩ := bindE e
  exact ⟨B, Hf, Γ, ps, s1, Γ1, R, e1, fun x fp1 Hf1 H1 R1 => hr B Hf1 H1 σ Γ1 ps x s1 fp1 _ _ R1 e Q k⟩
def gSc1 (g : Dat → Option Dat) : Slot → Env → Option (Slot × Env) := fun s Γ => (viewD Γ s).bind fun d => (g d).bind fun z => some (.d z, Γ)
theorem r1_sc {r : V → Hp → VK → Prop} {g : Dat → Option Dat} (h : ∀ H x d z, Den K H x d → g d = some z → ∃ zv, scV z = some zv ∧ ∀ Q : VK, Q zv H → r x H Q) : R1M K r (gSc1 g) := by
  intro B Hf H σ Γ ps x s fp res Γ' ⟨f, R⟩ e Q k
  obtain ⟨d, e1, e⟩ := bindE e
  obtain ⟨z, e3, e⟩ := bindE e
  simp only [Option.some.injEq, Prod.mk.injEq] at e
  obtain ⟨rfl, rfl⟩ := e
  obtain ⟨zv, q1, q2⟩ := h H x d z (R.viewP (p := ⟨x, s, fp⟩) (by simp) e1) e3
  exact q2 Q (k zv [] Hf H ⟨f, R.pop.pushD (scV_den q1)⟩)
def negD : Dat → Option Dat
  | .int i => some (.int (-i))
  | _ => none
abbrev gNeg := gSc1 negD
theorem d_neg (ha : PE X a (tM X.K ma)) : PE X (.UnaryOp .USub a pos) (tM X.K (mUn gNeg ma)) :=
  PE.imp (pe_un un_neg ha) fun _ _ _ => un_imp (r1_sc fun H x d z hx h => by
    cases d <;> simp only [negD, Option.some.injEq, reduceCtorEq] at h
    subst h
    cases hx
    exact ⟨_, rfl, fun Q q => ⟨_, rfl, q⟩⟩)

/-! ### truth, and, or, not, if -/
def truD : Dat → Option Bool
  | .none => some false
  | .bool b => some b
  | .int i => some (i != 0)
  | .str x => if x.length ≤ lim then some ((x.length : Int) != 0) else none
  | .list l => some (!l.isEmpty)
  | .tuple l => some (!l.isEmpty)
  | _ => none
def mTru (ma : M) : MT := fun Γ => (ma Γ).bind fun p => (viewD p.2 p.1).bind fun d => (truD d).bind fun b => some (b, p.2)
theorem isEmpty_dens {H : Hp} {vs : List V} {ds : List Dat} (r : Dens K H vs ds) : (!vs.isEmpty) = !ds.isEmpty := by cases r <;> rfl
theorem truV_of {H : Hp} {v : V} {d : Dat} {b : Bool} (h : Den K H v d) (e : truD d = some b) : TruV K v H b := by
  cases h with
  | non => cases e; rfl
  | bl b => cases e; rfl
  | int i => cases e; rfl
  | str x =>
    simp only [truD] at e
    split at e
    · rename_i hl
      cases e
      exact ⟨Nat.le_trans hl lim_le, rfl⟩
    · cases e
  | lst s r => cases e; exact .inl ⟨_, .inl s, (isEmpty_dens r).symm⟩
  | tup s r => cases e; exact .inr (.inl ⟨_, s, (isEmpty_dens r).symm⟩)
  | dct => cases e
theorem dt_tru (ha : PE X a (tM X.K ma)) (he : ∀ whole, isTrue a X.env whole = (do let v ← whole; standAt a.pos; holding [v] (truthy v)) := by intro _; rfl) : PT X a (tT X.K (mTru ma)) :=
  PT.imp (pt_truth ha he) fun σ H Q h => by
    obtain ⟨B, Hf, Γ, ps, r, Γ', R, e, k⟩ := h
    obtain ⟨⟨s1, Γ1⟩, e1, e⟩ := bindE e
    obtain ⟨d, e2, e⟩ := bindE e
    obtain ⟨bb, e3, e⟩ := bindE e
    simp only [Option.some.injEq, Prod.mk.injEq] at e
    obtain ⟨rfl, rfl⟩ := e
    refine ⟨B, Hf, Γ, ps, s1, Γ1, R, e1, fun x fp1 Hf1 H1 ⟨f, R1⟩ => ⟨bb, truV_of (R1.viewP (p := ⟨x, s1, fp1⟩) (by simp) e2) e3, k Hf1 H1 ⟨f, R1.pop⟩⟩⟩
def mAndT (mt mu : MT) : MT := fun Γ => (mt Γ).bind fun p => if p.1 then mu p.2 else some (false, p.2)
def mOrT (mt mu : MT) : MT := fun Γ => (mt Γ).bind fun p => if p.1 then some (true, p.2) else mu p.2
def mNotT (mt : MT) : MT := fun Γ => (mt Γ).bind fun p => some (!p.1, p.2)
theorem andT_imp {σ : St} {H : Hp} {Q : Bool → Hp → Prop} (h : tT K (mAndT mt mu) σ H Q) : tAnd (tT K mt) (tT K mu) σ H Q := by
  obtain ⟨B, Hf, Γ, ps, r, Γ', R, e, k⟩ := h
  obtain ⟨⟨b1, Γ1⟩, e1, e⟩ := bindE e
  refine ⟨B, Hf, Γ, ps, b1, Γ1, R, e1, fun Hf1 H1 R1 => ?_⟩
  cases b1 with
  | true => exact ⟨B, Hf1, Γ1, ps, r, Γ', R1, by simpa using e, k⟩
  | false =>
    simp only [Bool.false_eq_true, if_false, Option.some.injEq, Prod.mk.injEq] at e ⊢
    obtain ⟨rfl, rfl⟩ := e
    exact k Hf1 H1 R1
theorem orT_imp {σ : St} {H : Hp} {Q : Bool → Hp → Prop} (h : tT K (mOrT mt mu) σ H Q) : tOr (tT K mt) (tT K mu) σ H Q := by
  obtain ⟨B, Hf, Γ, ps, r, Γ', R, e, k⟩ := h
  obtain ⟨⟨b1, Γ1⟩, e1, e⟩ := bindE e
  refine ⟨B, Hf, Γ, ps, b1, Γ1, R, e1, fun Hf1 H1 R1 => ?_⟩
  cases b1 with
  | false => exact ⟨B, Hf1, Γ1, ps, r, Γ', R1, by simpa using e, k⟩
  | true =>
    simp only [if_true, Option.some.injEq, Prod.mk.injEq] at e ⊢
    obtain ⟨rfl, rfl⟩ := e
    exact k Hf1 H1 R1
variable {rest : List Expr}
theorem dw_and1 (ha : PT X a (tT X.K mt)) : PW X (.BoolOp .And [a] pos) (tT X.K mt) := pw_and1 ha
theorem dw_or1 (ha : PT X a (tT X.K mt)) : PW X (.BoolOp .Or [a] pos) (tT X.K mt) := pw_or1 ha
theorem dw_and (ha : PT X a (tT X.K mt)) (hb : PW X (.BoolOp .And (b :: rest) pos) (tT X.K mu)) : PW X (.BoolOp .And (a :: b :: rest) pos) (tT X.K (mAndT mt mu)) := PW.imp (pw_and ha hb) fun _ _ _ => andT_imp
theorem dw_or (ha : PT X a (tT X.K mt)) (hb : PW X (.BoolOp .Or (b :: rest) pos) (tT X.K mu)) : PW X (.BoolOp .Or (a :: b :: rest) pos) (tT X.K (mOrT mt mu)) := PW.imp (pw_or ha hb) fun _ _ _ => orT_imp
theorem dt_not (ha : PT X a (tT X.K mt)) : PT X (.UnaryOp .Not a pos) (tT X.K (mNotT mt)) := PT.imp (pt_not ha) fun σ H Q h => by
  obtain ⟨B, Hf, Γ, ps, r, Γ', R, e, k⟩ := h
  obtain ⟨⟨b1, Γ1⟩, e1, e⟩ := bindE e
  simp only [Option.some.injEq, Prod.mk.injEq] at e
  obtain ⟨rfl, rfl⟩ := e
  exact ⟨B, Hf, Γ, ps, b1, Γ1, R, e1, k⟩
/-- as values: bools ahead of the last -/
def mAndV (ma mb : M) : M := fun Γ => (mB ma Γ).bind fun p => if p.1 then mb p.2 else some (.d (.bool false), p.2)
def mOrV (ma mb : M) : M := fun Γ => (mB ma Γ).bind fun p => if p.1 then some (.d (.bool true), p.2) else mb p.2
def mNotV (ma : M) : M := fun Γ => (mB ma Γ).bind fun p => some (.d (.bool (!p.1)), p.2)
theorem d_one {op} (ha : PE X a (tM X.K ma)) : PE X (.BoolOp op [a] pos) (tM X.K ma) := pe_one ha
theorem mb_at {σ : St} {H : Hp} {B : Base} {Hf : Hp} {Γ Γ1 : Env} {ps : List Pend} {b1 : Bool} (R : Reach K B Hf H σ Γ ps) (e1 : mB ma Γ = some (b1, Γ1)) {T : V → Hp → Prop} (h : ∀ Hf1 H1, Reach K B Hf1 H1 σ Γ1 ps → T (.bl b1) H1) : tM K ma σ H T :=
  ⟨B, Hf, Γ, ps, _, Γ1, R, mB_some e1, fun x fp Hf1 H1 ⟨f, R1⟩ => by
    have q := (R1.pend _ List.mem_cons_self).2
    cases q
    exact h Hf1 H1 ⟨f, R1.pop⟩⟩
theorem d_and (ha : PE X a (tM X.K ma)) (hb : PE X (.BoolOp .And (b :: rest) pos) (tM X.K mb)) : PE X (.BoolOp .And (a :: b :: rest) pos) (tM X.K (mAndV ma mb)) := PE.imp (pe_and ha hb) fun σ H Q h => by
  obtain ⟨B, Hf, Γ, ps, r, Γ', R, e, k⟩ := h
  obtain ⟨⟨b1, Γ1⟩, e1, e⟩ := bindE e
  refine mb_at R e1 fun Hf1 H1 R1 => ⟨b1, rfl, ?_⟩
  cases b1 with
  | true => exact ⟨B, Hf1, Γ1, ps, r, Γ', R1, by simpa using e, k⟩
  | false =>
    simp only [Bool.false_eq_true, if_false, Option.some.injEq, Prod.mk.injEq] at e ⊢
    obtain ⟨rfl, rfl⟩ := e
    obtain ⟨f, R1⟩ := R1
    exact k (.bl false) [] Hf1 H1 ⟨f, R1.pushD (.bl _)⟩
theorem d_or (ha : PE X a (tM X.K ma)) (hb : PE X (.BoolOp .Or (b :: rest) pos) (tM X.K mb)) : PE X (.BoolOp .Or (a :: b :: rest) pos) (tM X.K (mOrV ma mb)) := PE.imp (pe_or ha hb) fun σ H Q h => by
  obtain ⟨B, Hf, Γ, ps, r, Γ', R, e, k⟩ := h
  obtain ⟨⟨b1, Γ1⟩, e1, e⟩ := bindE e
  refine mb_at R e1 fun Hf1 H1 R1 => ⟨b1, rfl, ?_⟩
  cases b1 with
  | false => exact ⟨B, Hf1, Γ1, ps, r, Γ', R1, by simpa using e, k⟩
  | true =>
    simp only [if_true, Option.some.injEq, Prod.mk.injEq] at e ⊢
    obtain ⟨rfl, rfl⟩ := e
    obtain ⟨f, R1⟩ := R1
    exact k (.bl true) [] Hf1 H1 ⟨f, R1.pushD (.bl _)⟩
theorem d_not (ha : PE X a (tM X.K ma)) : PE X (.UnaryOp .Not a pos) (tM X.K (mNotV ma)) := PE.imp (pe_not ha) fun σ H Q h => by
  obtain ⟨B, Hf, Γ, ps, r, Γ', R, e, k⟩ := h
  obtain ⟨⟨b1, Γ1⟩, e1, e⟩ := bindE e
  simp only [Option.some.injEq, Prod.mk.injEq] at e
  obtain ⟨rfl, rfl⟩ := e
  refine mb_at R e1 fun Hf1 H1 ⟨f, R1⟩ => ⟨b1, rfl, k (.bl (!b1)) [] Hf1 H1 ⟨f, R1.pushD (.bl _)⟩⟩
def mIf (mt : MT) (ma mb : M) : M := fun Γ => (mt Γ).bind fun p => if p.1 then ma p.2 else mb p.2
theorem d_if (hc : PT X c (tT X.K mt)) (ha : PE X a (tM X.K ma)) (hb : PE X b (tM X.K mb)) : PE X (.IfExp c a b pos) (tM X.K (mIf mt ma mb)) := PE.imp (pe_ifExp hc ha hb) fun σ H Q h => by
  obtain ⟨B, Hf, Γ, ps, r, Γ', R, e, k⟩ := h
  obtain ⟨⟨b1, Γ1⟩, e1, e⟩ := bindE e
  refine ⟨B, Hf, Γ, ps, b1, Γ1, R, e1, fun Hf1 H1 R1 => ?_⟩
  cases b1 with
  | true => exact ⟨B, Hf1, Γ1, ps, r, Γ', R1, by simpa using e, k⟩
  | false => exact ⟨B, Hf1, Γ1, ps, r, Γ', R1, by simpa using e, k⟩

/-! ### rows of values -/
def mD0 : MD := fun Γ => some ([], Γ)
def mDc (m : M) (mr : MD) : MD := fun Γ => (m Γ).bind fun p => (settle p.2 p.1).bind fun q => (mr q.2).bind fun t => some (q.1 :: t.1, t.2)
/-- *e -/
def mDs (m : M) (mr : MD) : MD := fun Γ => (m Γ).bind fun p => (settle p.2 p.1).bind fun q => (seqOf q.1).bind fun l => if l.2.length ≤ lim then (mr q.2).bind fun t => some (l.2 ++ t.1, t.2) else none
variable {es : List Expr} {mr : MD}
theorem da_nil : PA X [] (tAD X.K mD0) := PA.imp pa_nil fun σ H Q h => by
  obtain ⟨B, Hf, Γ, ps, r, Γ', R, e, k⟩ := h
  simp only [mD0, Option.some.injEq, Prod.mk.injEq] at e
  obtain ⟨rfl, rfl⟩ := e
  exact k [] Hf H .nil R
theorem da_cons (ha : PE X a (tM X.K ma)) (hr : PA X es (tAD X.K mr)) (hs : starEach (a :: es) X.env = (false, eval a X.env) :: starEach es X.env := by rfl) : PA X (a :: es) (tAD X.K (mDc ma mr)) := PA.imp (pa_cons ha hr hs) fun σ H Q h => by
  obtain ⟨B, Hf, Γ, ps, r, Γ', R, e, k⟩ := h
  obtain ⟨⟨s1, Γ1⟩, e1, e⟩ := bindE e
  obtain ⟨⟨d, Γ2⟩, e2, e⟩ := bindE e
  obtain ⟨⟨l, Γ3⟩, e3, e⟩ := bindE e
  simp only [Option.some.injEq, Prod.mk.injEq] at e
  obtain ⟨rfl, rfl⟩ := e
  refine ⟨B, Hf, Γ, ps, s1, Γ1, R, e1, fun x fp1 Hf1 H1 R1 => ?_⟩
  obtain ⟨Hf2, _, R2⟩ := R1.settle e2
  refine ⟨B, Hf2, Γ2, _, l, Γ3, R2, e3, fun vs Hf3 H3 dv ⟨f, R3⟩ => ?_⟩
  exact k (x :: vs) Hf3 H3 (.cons (R3.pend _ List.mem_cons_self).2 dv) ⟨f, R3.pop⟩
def tStar (K : PySem.W.Frag) (te : TE) (tr : TA) : TA := fun σ H Q => te σ H fun x H1 => ∃ p xs, x = .ref p ∧ (SqL K H1 p xs ∨ SqT K H1 p xs) ∧ tr σ H1 fun ys H2 => Q (xs ++ ys) H2
theorem pa_star {te : TE} {tr : TA} {sp : Pos} (ha : PE X a te) (hr : PA X es tr) (hs : starEach (.Starred a sp :: es) X.env = (true, eval a X.env) :: starEach es X.env := by rfl) : PA X (.Starred a sp :: es) (tStar X.K te tr) := by
  refine ⟨fun pos pins s σ H Q I h => ?_⟩
  refine PySem.W.items_star (thn (ha.run pins s σ H _ I h) fun u s1 ⟨x, H1, I1, r1, q1⟩ => ?_) hs
  obtain ⟨p, xs, rfl, hq, q1⟩ := q1
  obtain rfl : u = Value.ref p := r1
  have go : ∀ (its : List Value) (T : String) (o : Obj) (n : Nat), Vals xs its → xs.length ≤ sizeLine → s1.heap.get? p = some o → o.cls = .type T → o.data = .seq its.toArray n → T = "list" ∨ T = "tuple" →
      PySem.W.StarOf (model X.prog X.w) X.A X.xe (.ref p) (fun here s₂ => wpAny (model X.prog X.w) X.A (spliced (backTo pos (starEach es X.env))) (fun vs s₃ => AP X pins σ Q (here ++ vs) s₃) X.xe s₂) s1 := by
    intro its T o n rv hz ho hc hd hT
    have hT' : s1.TypeIs (.ref p) T := ⟨o, ho, hc⟩
    have z : wpAny (model X.prog X.w) X.A (collect (.ref p)) (fun here s₂ => wpAny (model X.prog X.w) X.A (spliced (backTo pos (starEach es X.env))) (fun vs s₃ => AP X pins σ Q (here ++ vs) s₃) X.xe s₂) X.xe s1 := by
      refine wpAny_collect_seq p hT ho hc hd (fun h' hk => ?_) (by rw [List.size_toArray, ← rv.length]; exact hz)
      have I2 : Inv X pins σ H1 { s1 with heap := h' } := I1.kept (t' := s1.toks) hk
      refine thn (hr.run pos pins _ σ H1 _ I2 q1) fun us s2 ⟨ys, H2, I3, r2, q2⟩ => ⟨xs ++ ys, H2, I3, ?_, q2⟩
      exact (by simpa using rv : Vals xs its.toArray.toList).append r2
    unfold PySem.W.StarOf notIterableAtAll
    rcases hT with rfl | rfl
    · exact wpAny_bind (wpAny_specialOf hT' PySem.F.slot_list_iter.lookup (wpAny_pure ⟨rfl, z⟩))
    · exact wpAny_bind (wpAny_specialOf hT' PySem.F.slot_tuple_iter.lookup (wpAny_pure ⟨rfl, z⟩))
  rcases hq with hq | hq
  · obtain ⟨its, rv, ⟨o, n, e1, e2, e3, e4⟩, hz⟩ := I1.list hq
    exact go its "list" o n rv hz e1 e2 e4 (.inl rfl)
  · obtain ⟨its, rv, ⟨o, e1, e2, n, e4⟩, hz⟩ := I1.tuple hq
    exact go its "tuple" o n rv hz e1 e2 e4 (.inr rfl)
theorem da_star {sp : Pos} (ha : PE X a (tM X.K ma)) (hr : PA X es (tAD X.K mr)) (hs : starEach (.Starred a sp :: es) X.env = (true, eval a X.env) :: starEach es X.env := by rfl) : PA X (.Starred a sp :: es) (tAD X.K (mDs ma mr)) := PA.imp (pa_star ha hr hs) fun σ H Q h => by
  obtain ⟨B, Hf, Γ, ps, r, Γ', R, e, k⟩ := h
  obtain ⟨⟨s1, Γ1⟩, e1, e⟩ := bindE e
  obtain ⟨⟨d, Γ2⟩, e2, e⟩ := bindE e
  obtain ⟨⟨bb, l⟩, e3, e⟩ := bindE e
  simp only at e
  split at e
  · rename_i hl
    obtain ⟨⟨l2, Γ3⟩, e4, e⟩ := bindE e
    simp only [Option.some.injEq, Prod.mk.injEq] at e
    obtain ⟨rfl, rfl⟩ := e
    refine ⟨B, Hf, Γ, ps, s1, Γ1, R, e1, fun x fp1 Hf1 H1 R1 => ?_⟩
    obtain ⟨Hf2, _, f2, R2⟩ := R1.settle e2
    obtain ⟨p, xs, rfl, q2, q3⟩ := R2.itemsP (p := ⟨x, .d d, []⟩) (by simp) rfl e3
    refine ⟨p, xs, rfl, ?_, _, Hf2, Γ2, [], l2, Γ3, ⟨f2, R2.base⟩, e4, fun vs Hf3 H3 dv ⟨f, R3⟩ => ?_⟩
    · cases bb with
      | true => exact .inl (.inl (by simpa using q2))
      | false => exact .inr (by simpa using q2)
    · exact k (xs ++ vs) Hf3 H3 ((q3.mono R3.ex).append dv) ⟨f, (R2.trans R3 (.inr rfl)).pop⟩
  · cases e
end
end DL

set_option Elab.async false
set_option linter.all false
set_option maxRecDepth 100000
set_option maxHeartbeats 4000000
namespace DL
open PySem L2
variable [TabsC]
section
variable {X : Cx} {K : PySem.W.Frag} {a b c e : Expr} {ma mb mc : M} {mt mu : MT} {md : MD} {pos : Pos} {k : Nat} {es : List Expr}

/-! ### displays -/
def mTup (md : MD) : M := fun Γ => (md Γ).bind fun p => if p.1.length ≤ lim then some (.d (.tuple p.1), p.2) else none
def mLst (md : MD) : M := fun Γ => (md Γ).bind fun p => if p.1.length ≤ lim then some (.own (.lst p.1), p.2) else none
theorem d_tup {x1} (h : PA X es (tAD X.K md)) : PE X (.Tuple es x1 pos) (tM X.K (mTup md)) := PE.imp (pe_tup h) fun σ H Q h => by
  obtain ⟨B, Hf, Γ, ps, r, Γ', R, e, k⟩ := h
  obtain ⟨⟨l, Γ1⟩, e1, e⟩ := bindE e
  simp only at e
  split at e
  · rename_i hl
    simp only [Option.some.injEq, Prod.mk.injEq] at e
    obtain ⟨rfl, rfl⟩ := e
    refine ⟨B, Hf, Γ, ps, l, Γ1, R, e1, fun vs Hf1 H1 dv ⟨f, R1⟩ => ⟨?_, fun p hp => k _ _ _ _ ⟨f, R1.newT hp dv⟩⟩⟩
    rw [dv.length]; exact Nat.le_trans hl lim_le
  · cases e
theorem d_lst (h : PA X es (tAD X.K md)) : PE X (.List es pos) (tM X.K (mLst md)) := PE.imp (pe_lst h) fun σ H Q h => by
  obtain ⟨B, Hf, Γ, ps, r, Γ', R, e, k⟩ := h
  obtain ⟨⟨l, Γ1⟩, e1, e⟩ := bindE e
  simp only at e
  split at e
  · rename_i hl
    simp only [Option.some.injEq, Prod.mk.injEq] at e
    obtain ⟨rfl, rfl⟩ := e
    refine ⟨B, Hf, Γ, ps, l, Γ1, R, e1, fun vs Hf1 H1 dv ⟨f, R1⟩ => ⟨?_, fun p hp => k _ _ _ _ ⟨f, R1.newL hp dv⟩⟩⟩
    rw [dv.length]; exact Nat.le_trans hl lim_le
  · cases e
def mDict0 : M := fun Γ => some (.own (.dct []), Γ)
theorem d_dict0 : PE X (.Dict [] [] pos) (tM X.K mDict0) := PE.imp pe_dnewK fun σ H Q h => by
  obtain ⟨B, Hf, Γ, ps, r, Γ', ⟨f, R⟩, e, k⟩ := h
  simp only [mDict0, Option.some.injEq, Prod.mk.injEq] at e
  obtain ⟨rfl, rfl⟩ := e
  exact fun p hp => k _ _ _ _ ⟨f, R.newD hp .nil⟩

/-! ### + of ints, texts, lists, tuples -/
theorem tupF {B : Base} {Hf H : Hp} {σ : St} {Γ : Env} {f : Nat → List Addr} {ps : List Pend} {p : Pend} {l : List Dat} (R : ReachF K B Hf H σ Γ f ps) (hp : p ∈ ps) (e : viewD Γ p.s = some (.tuple l)) : Den K Hf p.v (.tuple l) := by
  have q := R.pend p hp
  obtain ⟨v, s, fp⟩ := p
  cases s with
  | d z => cases e; exact q.2
  | own o => cases o <;> cases e
  | bor i =>
    simp only [viewD] at e
    split at e
    · rename_i o ho; cases o <;> cases e
    · rename_i z hz
      cases e
      obtain ⟨_, w, e5, q5⟩ := R.slot i _ hz
      rw [q.2] at e5
      cases e5
      exact q5
    · cases e
  | _ => cases e
def rCatR : R2 := fun x y H Q => ∃ l b xs zs, x = .ref l ∧ y = .ref b ∧ Rd H l (.lst xs) ∧ Rd H b (.lst zs) ∧ xs.length + zs.length ≤ sizeLine ∧ ∀ p, H p = none → Q (.ref p) (upd H p (.lst (xs ++ zs)))
theorem lstR {pins : List (Addr × Obj)} {σ : St} {H : Hp} {s : Shared} {l : Addr} {xs : List V} (I : Inv X pins σ H s) (hH : Rd H l (.lst xs)) : xs.length ≤ sizeLine ∧ ∃ (its : List Value) (n : Nat), Vals xs its ∧ xs.length = its.length ∧ s.heap.get? l = some { cls := .type "list", data := .seq its.toArray n } := by
  obtain ⟨z, its, n, r, e⟩ := hH.ok I.hok
  exact ⟨z, its, n, r, r.length, e⟩
theorem op_catR : OpR X (binaryOp .Add) rCatR := by
  intro pins s σ H x y v u Q I rx ry h
  obtain ⟨l, b, xs, zs, rfl, rfl, hH, hB, hz, q⟩ := h
  cases rx
  cases ry
  obtain ⟨z, its, n, r, hl, e⟩ := lstR I hH
  obtain ⟨z2, its2, n2, r2, hl2, e2⟩ := lstR I hB
  refine PySem.P.add_list e e2 ?_ (by rw [List.size_toArray, List.size_toArray]; omega)
  have ea : its.toArray ++ its2.toArray = (its ++ its2).toArray := by simp
  rw [ea]
  exact ⟨.ref _, _, I.lnew (t' := s.toks) (r.append r2) (by rw [List.length_append]; omega), rfl, q _ I.fresh⟩
def rStrCat : R2 := fun x y H Q => ∃ i j, x = .str i ∧ y = .str j ∧ i.length + j.length ≤ sizeLine ∧ Q (.str (i ++ j)) H
def rAddD (K : PySem.W.Frag) : R2 := fun x y H Q => rI0 (fun i j => .int (i + j)) x y H Q ∨ rStrCat x y H Q ∨ rCatR x y H Q ∨ rCatA K x y H Q
theorem op_addD : OpR X (binaryOp .Add) (rAddD X.K) := op_add.or (op_add_str.or (op_catR.or op_catA))
def gAdd : Slot → Slot → Env → Option (Slot × Env) := fun s1 s2 Γ => (viewD Γ s1).bind fun d => (viewD Γ s2).bind fun e => match d, e with
  | .int i, .int j => some (.d (.int (i + j)), Γ)
  | .str x, .str y => if x.length + y.length ≤ lim then some (.d (.str (x ++ y)), Γ) else none
  | .list l, .list l2 => if l.length + l2.length ≤ lim then some (.own (.lst (l ++ l2)), Γ) else none
  | .tuple l, .tuple l2 => if l.length + l2.length ≤ lim then some (.d (.tuple (l ++ l2)), Γ) else none
  | _, _ => none
theorem r2_add : R2M K (rAddD K) gAdd := by
  intro B Hf H σ Γ ps x y s1 s2 fp1 fp2 res Γ' ⟨f, R⟩ e Q k
  obtain ⟨d, e1, e⟩ := bindE e
  obtain ⟨d2, e2, e⟩ := bindE e
  have v1 := R.viewP (p := ⟨x, s1, fp1⟩) (by simp) e1
  have v2 := R.viewP (p := ⟨y, s2, fp2⟩) (by simp) e2
  have R0 := R.pop.pop
  cases d <;> cases d2 <;> simp only [reduceCtorEq] at e
  · -- ints
    simp only [Option.some.injEq, Prod.mk.injEq] at e
    obtain ⟨rfl, rfl⟩ := e
    cases v1
    cases v2
    exact .inl ⟨_, _, rfl, rfl, k _ [] Hf H ⟨f, R0.pushD (.int _)⟩⟩
  · split at e
    · rename_i hl
      simp only [Option.some.injEq, Prod.mk.injEq] at e
      obtain ⟨rfl, rfl⟩ := e
      cases v1
      cases v2
      exact .inr (.inl ⟨_, _, rfl, rfl, Nat.le_trans hl lim_le, k _ [] Hf H ⟨f, R0.pushD (.str _)⟩⟩)
    · cases e
  · split at e
    · rename_i hl
      simp only [Option.some.injEq, Prod.mk.injEq] at e
      obtain ⟨rfl, rfl⟩ := e
      obtain ⟨a1, xs, h1, q1, dx⟩ := R.itemsP (p := ⟨x, s1, fp1⟩) (by simp) e1 rfl
      obtain ⟨a2, ys, h2, q2, dy⟩ := R.itemsP (p := ⟨y, s2, fp2⟩) (by simp) e2 rfl
      exact .inr (.inr (.inl ⟨a1, a2, xs, ys, h1, h2, q1, q2, by rw [dx.length, dy.length]; exact Nat.le_trans hl lim_le, fun p hp => k _ _ _ _ ⟨f, R0.newL hp (dx.append dy)⟩⟩))
    · cases e
  · split at e
    · rename_i hl
      simp only [Option.some.injEq, Prod.mk.injEq] at e
      obtain ⟨rfl, rfl⟩ := e
      obtain ⟨a1, xs, h1, q1, dx⟩ := R.itemsP (p := ⟨x, s1, fp1⟩) (by simp) e1 rfl
      obtain ⟨a2, ys, h2, q2, dy⟩ := R.itemsP (p := ⟨y, s2, fp2⟩) (by simp) e2 rfl
      simp only at h1 h2
      have f1 := tupF R (p := ⟨x, s1, fp1⟩) (by simp) e1
      have f2 := tupF R (p := ⟨y, s2, fp2⟩) (by simp) e2
      subst h1 h2
      refine .inr (.inr (.inr ⟨a1, a2, xs, ys, rfl, rfl, q1, q2, by rw [dx.length, dy.length]; exact Nat.le_trans hl lim_le, fun hx => ?_, fun hx hy => ?_, fun _ _ p hp => k _ _ _ _ ⟨f, R0.newT hp (dx.append dy)⟩⟩))
      · subst hx
        cases dx
        exact k _ [] Hf H ⟨f, R0.pushD f2⟩
      · subst hy
        cases dy
        rw [List.append_nil] at k
        exact k _ [] Hf H ⟨f, R0.pushD f1⟩
    · cases e
theorem d_add (ha : PE X a (tM X.K ma)) (hb : PE X b (tM X.K mb)) : PE X (.BinOp a .Add b pos) (tM X.K (mBin gAdd ma mb)) := d_op op_addD r2_add ha hb
/-! * of ints, of a tuple and an int -/
def mulC (i j : Int) : Bool := (decide (-(2 ^ 64) < i) && decide (i < 2 ^ 64)) || (decide (-(2 ^ 64) < j) && decide (j < 2 ^ 64))
def gMul : Slot → Slot → Env → Option (Slot × Env) := fun s1 s2 Γ => (viewD Γ s1).bind fun d => (viewD Γ s2).bind fun e => match d, e with
  | .int i, .int j => if mulC i j then some (.d (.int (i * j)), Γ) else none
  | .tuple l, .int j => if l ≠ [] ∧ 2 ≤ j ∧ j ≤ 1000 ∧ l.length ≤ 1000 then some (.d (.tuple (List.replicate j.toNat l).flatten), Γ) else none
  | _, _ => none
def rMulD (K : PySem.W.Frag) : R2 := fun x y H Q => rI CMul (fun i j => .int (i * j)) x y H Q ∨ rRepT K x y H Q
theorem op_mulD : OpR X (binaryOp .Mult) (rMulD X.K) := op_mul.or op_repT
theorem Dens.rep {H : Hp} {vs : List V} {ds : List Dat} (r : Dens K H vs ds) : ∀ n, Dens K H (List.replicate n vs).flatten (List.replicate n ds).flatten
  | 0 => .nil
  | n + 1 => by
    rw [List.replicate_succ, List.replicate_succ, List.flatten_cons, List.flatten_cons]
    exact r.append (Dens.rep r n)
theorem r2_mul : R2M K (rMulD K) gMul := by
  intro B Hf H σ Γ ps x y s1 s2 fp1 fp2 res Γ' ⟨f, R⟩ e Q k
  obtain ⟨d, e1, e⟩ := bindE e
  obtain ⟨d2, e2, e⟩ := bindE e
  have v1 := R.viewP (p := ⟨x, s1, fp1⟩) (by simp) e1
  have v2 := R.viewP (p := ⟨y, s2, fp2⟩) (by simp) e2
  have R0 := R.pop.pop
  cases d <;> cases d2 <;> simp only [reduceCtorEq] at e
  · split at e
    · rename_i hl
      simp only [Option.some.injEq, Prod.mk.injEq] at e
      obtain ⟨rfl, rfl⟩ := e
      cases v1
      cases v2
      refine .inl ⟨_, _, rfl, rfl, ?_, k _ [] Hf H ⟨f, R0.pushD (.int _)⟩⟩
      simp only [mulC, Bool.or_eq_true, Bool.and_eq_true, decide_eq_true_eq] at hl
      exact hl
    · cases e
  · split at e
    · rename_i hl
      simp only [Option.some.injEq, Prod.mk.injEq] at e
      obtain ⟨rfl, rfl⟩ := e
      obtain ⟨a1, xs, h1, q1, dx⟩ := R.itemsP (p := ⟨x, s1, fp1⟩) (by simp) e1 rfl
      cases v2
      refine .inr ⟨a1, _, xs, h1, rfl, q1, fun z => hl.1 ?_, hl.2.1, hl.2.2.1, by rw [dx.length]; exact hl.2.2.2, fun p hp => k _ _ _ _ ⟨f, R0.newT hp (dx.rep _)⟩⟩
      subst z; cases dx; rfl
    · cases e
theorem d_mul (ha : PE X a (tM X.K ma)) (hb : PE X b (tM X.K mb)) : PE X (.BinOp a .Mult b pos) (tM X.K (mBin gMul ma mb)) := d_op op_mulD r2_mul ha hb

/-! ### items and slices -/
theorem Dens.at {H : Hp} {vs : List V} {ds : List Dat} {i : Int} {d : Dat} (r : Dens K H vs ds) (h : atI ds i = some d) : ∃ v, atI vs i = some v ∧ Den K H v d := by
  unfold atI at h ⊢
  rw [r.length]
  cases e : ixN ds.length i with
  | none => rw [e] at h; cases h
  | some j =>
    rw [e] at h
    obtain ⟨v, q1, q2⟩ := r.getD (show ds[j]? = some d from h)
    exact ⟨v, q1, q2⟩
def gIx : Slot → Slot → Env → Option (Slot × Env) := fun s1 s2 Γ => (viewD Γ s1).bind fun d => (seqOf d).bind fun p => (viewD Γ s2).bind fun e => match e with
  | .int i => (atI p.2 i).bind fun z => some (.d z, Γ)
  | _ => none
def rIxLT (K : PySem.W.Frag) : R2 := fun x y H Q => rIxL K x y H Q ∨ rIxT K x y H Q
theorem r2_ix : R2M K (rIxLT K) gIx := by
  intro B Hf H σ Γ ps x y s1 s2 fp1 fp2 res Γ' ⟨f, R⟩ e Q k
  obtain ⟨d, e1, e⟩ := bindE e
  obtain ⟨⟨bb, l⟩, e2, e⟩ := bindE e
  obtain ⟨d2, e3, e⟩ := bindE e
  cases d2 <;> simp only [reduceCtorEq] at e
  obtain ⟨z, e4, e⟩ := bindE e
  simp only [Option.some.injEq, Prod.mk.injEq] at e
  obtain ⟨rfl, rfl⟩ := e
  obtain ⟨a1, xs, h1, q1, dx⟩ := R.itemsP (p := ⟨x, s1, fp1⟩) (by simp) e1 e2
  have v2 := R.viewP (p := ⟨y, s2, fp2⟩) (by simp) e3
  simp only at v2
  cases v2
  obtain ⟨v, e5, q5⟩ := dx.at e4
  have fin := k v [] Hf H ⟨f, R.pop.pop.pushD q5⟩
  cases bb with
  | true => exact .inl ⟨a1, xs, _, v, h1, rfl, .inl (by simpa using q1), e5, fin⟩
  | false => exact .inr ⟨a1, xs, _, v, h1, rfl, by simpa using q1, e5, fin⟩
theorem d_ix (ha : PE X a (tM X.K ma)) (hb : PE X b (tM X.K mb)) (hs : PlainIx b := by exact fun _ _ => rfl) : PE X (.Subscript a b pos) (tM X.K (mBin gIx ma mb)) :=
  PE.imp (pe_ix (ix_list.or ix_tup) ha hb hs) fun _ _ _ => op_imp r2_ix
def cutL {α : Type} (xs : List α) (lo hi : Option Int) : List α := (xs.drop (HT.sIx xs.length 0 lo)).take (HT.sIx xs.length xs.length hi - HT.sIx xs.length 0 lo)
theorem Dens.cut {H : Hp} {vs : List V} {ds : List Dat} (r : Dens K H vs ds) (lo hi : Option Int) : Dens K H (cutV vs lo hi) (cutL ds lo hi) := by
  unfold cutV cutL
  rw [r.length]
  exact (r.drop _).take _
abbrev MO := Env → Option (Option Int × Env)
def tO (K : PySem.W.Frag) (m : MO) : TO := fun σ H Q => ∃ B Hf Γ ps r Γ', Reach K B Hf H σ Γ ps ∧ m Γ = some (r, Γ') ∧ ∀ Hf' H', Reach K B Hf' H' σ Γ' ps → Q r H'
def mO0 : MO := fun Γ => some (none, Γ)
def mO1 (m : M) : MO := fun Γ => (m Γ).bind fun p => match p.1 with
  | .d (.int i) => some (some i, p.2)
  | _ => none
theorem do_none : PO X none (tO X.K mO0) := ⟨fun pins s σ H Q I h => by
  obtain ⟨B, Hf, Γ, ps, r, Γ', R, e, k⟩ := h
  simp only [mO0, Option.some.injEq, Prod.mk.injEq] at e
  obtain ⟨rfl, rfl⟩ := e
  exact po_none.run pins s σ H Q I (k Hf H R)⟩
theorem do_some (ha : PE X a (tM X.K ma)) : PO X (some a) (tO X.K (mO1 ma)) := ⟨fun pins s σ H Q I h => by
  obtain ⟨B, Hf, Γ, ps, r, Γ', R, e, k⟩ := h
  obtain ⟨⟨s1, Γ1⟩, e1, e⟩ := bindE e
  refine (po_some ha).run pins s σ H Q I ⟨B, Hf, Γ, ps, s1, Γ1, R, e1, fun v fp Hf' H' ⟨f, R'⟩ => ?_⟩
  revert e
  cases s1 with
  | d x =>
    cases x <;> intro e <;> simp only [Option.some.injEq, Prod.mk.injEq, reduceCtorEq] at e
    obtain ⟨rfl, rfl⟩ := e
    have q := (R'.pend _ List.mem_cons_self).2
    cases q
    exact ⟨_, rfl, k Hf' H' ⟨f, R'.pop⟩⟩
  | _ => intro e; cases e⟩
def mSl (ma : M) (ml mh : MO) : M := fun Γ => (ma Γ).bind fun p => (ml p.2).bind fun q => (mh q.2).bind fun t => (viewD t.2 p.1).bind fun d => match d with
  | .list l => if l.length ≤ lim then some (.own (.lst (cutL l q.1 t.1)), t.2) else none
  | .tuple l => some (.d (.tuple (cutL l q.1 t.1)), t.2)
  | _ => none
def rSlD (K : PySem.W.Frag) : V → Option Int → Option Int → Hp → VK → Prop := fun x lo hi H Q => rSlL K x lo hi H Q ∨ rSlA K x lo hi H Q
variable {lo hi : Option Expr} {ml mh : MO} {p2 : Pos}
theorem cut_all {α : Type} {l : List α} {lo hi : Option Int} (h1 : HT.sIx l.length 0 lo = 0) (h2 : HT.sIx l.length l.length hi = l.length) : cutL l lo hi = l := by
  unfold cutL
  rw [h1, h2]
  simp
theorem d_sl (ha : PE X a (tM X.K ma)) (hl : PO X lo (tO X.K ml)) (hh : PO X hi (tO X.K mh)) : PE X (.Subscript a (.Slice lo hi none p2) pos) (tM X.K (mSl ma ml mh)) :=
  PE.imp (pe_slice (sl_list.or sl_tupA) ha hl hh) fun σ H Q h => by
    obtain ⟨B, Hf, Γ, ps, r, Γ', R, e, k⟩ := h
    obtain ⟨⟨s1, Γ1⟩, e1, e⟩ := bindE e
    obtain ⟨⟨o1, Γ2⟩, e2, e⟩ := bindE e
    obtain ⟨⟨o2, Γ3⟩, e3, e⟩ := bindE e
    obtain ⟨d, e4, e⟩ := bindE e
    refine ⟨B, Hf, Γ, ps, s1, Γ1, R, e1, fun x fp1 Hf1 H1 R1 => ⟨B, Hf1, Γ1, _, o1, Γ2, R1, e2, fun Hf2 H2 R2 => ⟨B, Hf2, Γ2, _, o2, Γ3, R2, e3, fun Hf3 H3 ⟨f, R3⟩ => ?_⟩⟩⟩
    cases d <;> simp only [reduceCtorEq] at e
    · split at e
      · rename_i hz
        simp only [Option.some.injEq, Prod.mk.injEq] at e
        obtain ⟨rfl, rfl⟩ := e
        obtain ⟨a1, xs, h1, q1, dx⟩ := R3.itemsP (p := ⟨x, s1, fp1⟩) (by simp) e4 rfl
        exact .inl ⟨a1, xs, h1, .inl (by simpa using q1), fun p hp => k _ _ _ _ ⟨f, R3.pop.newL hp (dx.cut _ _)⟩⟩
      · cases e
    · simp only [Option.some.injEq, Prod.mk.injEq] at e
      obtain ⟨rfl, rfl⟩ := e
      have fd := tupF R3 (p := ⟨x, s1, fp1⟩) (by simp) e4
      obtain ⟨a1, xs, h1, q1, dx⟩ := R3.itemsP (p := ⟨x, s1, fp1⟩) (by simp) e4 rfl
      refine .inr ⟨a1, xs, h1, by simpa using q1, fun hw => ?_, fun _ p hp => k _ _ _ _ ⟨f, R3.pop.newT hp (dx.cut _ _)⟩⟩
      rw [dx.length] at hw
      rw [cut_all hw.1 hw.2] at k
      simp only at h1 fd
      rw [← h1]
      exact k x [] Hf3 H3 ⟨f, R3.pop.pushD fd⟩

/-! ### built-ins of one argument -/
variable {es : List Expr} {p : Pos} {r : List V → Hp → VK → Prop} {g : Slot → Env → Option (Slot × Env)}
theorem cb_imp (hr : R1M K (fun x => r [x]) g) {σ : St} {H : Hp} {Q : VK} (h : tM K (mUn g ma) σ H Q) : tCB r (tCons (tM K ma) tNil) σ H Q := un_imp (r := fun x => r [x]) hr h
def intsOf : List Dat → Option (List Int)
  | [] => some []
  | .int i :: r => (intsOf r).map (i :: ·)
  | _ => none
def boolsOf : List Dat → Option (List Bool)
  | [] => some []
  | .bool i :: r => (boolsOf r).map (i :: ·)
  | _ => none
theorem intsOf_eq : ∀ {l : List Dat} {ns : List Int}, intsOf l = some ns → l = ns.map PyData.int
  | [], ns, h => by cases h; rfl
  | d :: r, ns, h => by
    cases d <;> simp only [intsOf, reduceCtorEq, Option.map_eq_some_iff] at h
    obtain ⟨m, h1, rfl⟩ := h
    rw [List.map_cons, ← intsOf_eq h1]
theorem boolsOf_eq : ∀ {l : List Dat} {ns : List Bool}, boolsOf l = some ns → l = ns.map PyData.bool
  | [], ns, h => by cases h; rfl
  | d :: r, ns, h => by
    cases d <;> simp only [boolsOf, reduceCtorEq, Option.map_eq_some_iff] at h
    obtain ⟨m, h1, rfl⟩ := h
    rw [List.map_cons, ← boolsOf_eq h1]
theorem intsOf_map (ns : List Int) : intsOf (ns.map PyData.int) = some ns := by
  induction ns with
  | nil => rfl
  | cons n r ih => rw [List.map_cons, intsOf, ih]; rfl
theorem boolsOf_map (ns : List Bool) : boolsOf (ns.map PyData.bool) = some ns := by
  induction ns with
  | nil => rfl
  | cons n r ih => rw [List.map_cons, boolsOf, ih]; rfl
def lenD : Dat → Option Dat
  | .list l => some (.int l.length)
  | .tuple l => some (.int l.length)
  | .str x => if x.length ≤ lim then some (.int x.length) else none
  | _ => none
def absD : Dat → Option Dat
  | .int i => some (.int (if i < 0 then -i else i))
  | _ => none
def intD : Dat → Option Dat
  | .int i => some (.int i)
  | .bool b => some (.int (if b then 1 else 0))
  | _ => none
def sumD : Dat → Option Dat
  | .list l => (intsOf l).map fun ns => .int ns.sum
  | _ => none
def allD : Dat → Option Dat
  | .list l => (boolsOf l).map fun ns => .bool (ns.all id)
  | _ => none
def anyD : Dat → Option Dat
  | .list l => (boolsOf l).map fun ns => .bool (ns.any id)
  | _ => none
theorem d_len (ha : PE X a (tM X.K ma)) (hm : X.mg "len" = none) (hg : Gl X "len" := by rfl) (h1 : starEach [a] X.env = (false, eval a X.env) :: starEach [] X.env := by rfl) : PE X (.Call (.Name "len" p) [a] [] pos) (tM X.K (mUn (gSc1 lenD) ma)) :=
  PE.imp (pe_callB (call_len_seq.or call_len_str) hg hm PySem.boot_len (pa_cons ha pa_nil h1) (he := h1)) fun σ H Q h => cb_imp (r1_sc fun H x d z hx h => by
    cases hx <;> simp only [lenD, Option.some.injEq, reduceCtorEq] at h
    · split at h
      · rename_i hl
        cases h
        exact ⟨_, rfl, fun Q q => .inr ⟨_, rfl, Nat.le_trans hl lim_le, q⟩⟩
      · cases h
    · rename_i s r
      subst h
      exact ⟨_, rfl, fun Q q => .inl ⟨_, _, rfl, .inl (.inl s), by rw [r.length]; exact q⟩⟩
    · rename_i s r
      subst h
      exact ⟨_, rfl, fun Q q => .inl ⟨_, _, rfl, .inr s, by rw [r.length]; exact q⟩⟩) h
theorem d_abs (ha : PE X a (tM X.K ma)) (hm : X.mg "abs" = none) (hg : Gl X "abs" := by rfl) (h1 : starEach [a] X.env = (false, eval a X.env) :: starEach [] X.env := by rfl) : PE X (.Call (.Name "abs" p) [a] [] pos) (tM X.K (mUn (gSc1 absD) ma)) :=
  PE.imp (pe_callB call_abs hg hm (by decide +kernel) (pa_cons ha pa_nil h1) (he := h1)) fun σ H Q h => cb_imp (r1_sc fun H x d z hx h => by
    cases hx <;> simp only [absD, Option.some.injEq, reduceCtorEq] at h
    subst h
    exact ⟨_, rfl, fun Q q => ⟨_, rfl, q⟩⟩) h
theorem d_intc (ha : PE X a (tM X.K ma)) (hm : X.mg "int" = none) (hg : Gl X "int" := by rfl) (h1 : starEach [a] X.env = (false, eval a X.env) :: starEach [] X.env := by rfl) : PE X (.Call (.Name "int" p) [a] [] pos) (tM X.K (mUn (gSc1 intD) ma)) :=
  PE.imp (pe_callTy call_int1 hg hm (by decide +kernel) (pa_cons ha pa_nil h1) (he := h1)) fun σ H Q h => cb_imp (r1_sc fun H x d z hx h => by
    cases hx <;> simp only [intD, Option.some.injEq, reduceCtorEq] at h
    · subst h
      exact ⟨_, rfl, fun Q q => .inr ⟨_, rfl, q⟩⟩
    · subst h
      exact ⟨_, rfl, fun Q q => .inl ⟨_, rfl, q⟩⟩) h
variable {kk : Nat}
theorem d_sum (c : Cok kk X) (ha : PE X a (tM X.K ma)) (hm : X.mg "sum" = none) (hg : Gl X "sum" := by rfl) (h1 : starEach [a] X.env = (false, eval a X.env) :: starEach [] X.env := by rfl) : PE X (.Call (.Name "sum" p) [a] [] pos) (tM X.K (mUn (gSc1 sumD) ma)) :=
  PE.imp (pe_callB (cr_sum c.calm) hg hm (by decide +kernel) (pa_cons ha pa_nil h1) (he := h1)) fun σ H Q h => cb_imp (r1_sc fun H x d z hx h => by
    cases hx <;> simp only [sumD, reduceCtorEq, Option.map_eq_some_iff] at h
    rename_i s r
    obtain ⟨ns, e, rfl⟩ := h
    rw [intsOf_eq e] at r
    rw [r.ints] at s
    exact ⟨_, rfl, fun Q q => ⟨_, ns, rfl, .inl s, q⟩⟩) h
theorem d_all (c : Cok kk X) (ha : PE X a (tM X.K ma)) (hm : X.mg "all" = none) (hg : Gl X "all" := by rfl) (h1 : starEach [a] X.env = (false, eval a X.env) :: starEach [] X.env := by rfl) : PE X (.Call (.Name "all" p) [a] [] pos) (tM X.K (mUn (gSc1 allD) ma)) :=
  PE.imp (pe_callB (cr_all c.calm) hg hm (by decide +kernel) (pa_cons ha pa_nil h1) (he := h1)) fun σ H Q h => cb_imp (r1_sc fun H x d z hx h => by
    cases hx <;> simp only [allD, reduceCtorEq, Option.map_eq_some_iff] at h
    rename_i s r
    obtain ⟨ns, e, rfl⟩ := h
    rw [boolsOf_eq e] at r
    rw [r.bools] at s
    exact ⟨_, rfl, fun Q q => ⟨_, ns, rfl, .inl s, q⟩⟩) h
theorem d_any (c : Cok kk X) (ha : PE X a (tM X.K ma)) (hm : X.mg "any" = none) (hg : Gl X "any" := by rfl) (h1 : starEach [a] X.env = (false, eval a X.env) :: starEach [] X.env := by rfl) : PE X (.Call (.Name "any" p) [a] [] pos) (tM X.K (mUn (gSc1 anyD) ma)) :=
  PE.imp (pe_callB (cr_any c.calm) hg hm (by decide +kernel) (pa_cons ha pa_nil h1) (he := h1)) fun σ H Q h => cb_imp (r1_sc fun H x d z hx h => by
    cases hx <;> simp only [anyD, reduceCtorEq, Option.map_eq_some_iff] at h
    rename_i s r
    obtain ⟨ns, e, rfl⟩ := h
    rw [boolsOf_eq e] at r
    rw [r.bools] at s
    exact ⟨_, rfl, fun Q q => ⟨_, ns, rfl, .inl s, q⟩⟩) h
def gTuple : Slot → Env → Option (Slot × Env) := fun s Γ => (viewD Γ s).bind fun d => match d with
  | .list l => some (.d (.tuple l), Γ)
  | .tuple l => some (.d (.tuple l), Γ)
  | _ => none
theorem d_tuple (ha : PE X a (tM X.K ma)) (hm : X.mg "tuple" = none) (hg : Gl X "tuple" := by rfl) (h1 : starEach [a] X.env = (false, eval a X.env) :: starEach [] X.env := by rfl) : PE X (.Call (.Name "tuple" p) [a] [] pos) (tM X.K (mUn gTuple ma)) :=
  PE.imp (pe_callTy call_tuple_of hg hm (by decide +kernel) (pa_cons ha pa_nil h1) (he := h1)) fun σ H Q h => cb_imp (by
    intro B Hf H σ Γ ps x s fp res Γ' ⟨f, R⟩ e Q k
    obtain ⟨d, e1, e⟩ := bindE e
    cases d <;> simp only [reduceCtorEq, Option.some.injEq, Prod.mk.injEq] at e
    · obtain ⟨rfl, rfl⟩ := e
      obtain ⟨a1, xs, h1, q1, dx⟩ := R.itemsP (p := ⟨x, s, fp⟩) (by simp) e1 rfl
      exact ⟨a1, xs, congrArg (fun z => [z]) h1, .inl ⟨.inl (by simpa using q1), fun p hp => k _ _ _ _ ⟨f, R.pop.newT hp dx⟩⟩⟩
    · obtain ⟨rfl, rfl⟩ := e
      have fd := tupF R (p := ⟨x, s, fp⟩) (by simp) e1
      obtain ⟨a1, xs, h1, q1, dx⟩ := R.itemsP (p := ⟨x, s, fp⟩) (by simp) e1 rfl
      refine ⟨a1, xs, congrArg (fun z => [z]) h1, .inr ⟨by simpa using q1, ?_⟩⟩
      simp only at h1 fd
      rw [← h1]
      exact k x [] Hf H ⟨f, R.pop.pushD fd⟩) h
def gList : Slot → Env → Option (Slot × Env) := fun s Γ => (viewD Γ s).bind fun d => (seqOf d).bind fun p => some (.own (.lst p.2), Γ)
theorem d_list (ha : PE X a (tM X.K ma)) (hm : X.mg "list" = none) (hg : Gl X "list" := by rfl) (h1 : starEach [a] X.env = (false, eval a X.env) :: starEach [] X.env := by rfl) : PE X (.Call (.Name "list" p) [a] [] pos) (tM X.K (mUn gList ma)) :=
  PE.imp (pe_callTy call_list_of hg hm (by decide +kernel) (pa_cons ha pa_nil h1) (he := h1)) fun σ H Q h => cb_imp (by
    intro B Hf H σ Γ ps x s fp res Γ' ⟨f, R⟩ e Q k
    obtain ⟨d, e1, e⟩ := bindE e
    obtain ⟨⟨bb, l⟩, e2, e⟩ := bindE e
    simp only [Option.some.injEq, Prod.mk.injEq] at e
    obtain ⟨rfl, rfl⟩ := e
    obtain ⟨a1, xs, h1, q1, dx⟩ := R.itemsP (p := ⟨x, s, fp⟩) (by simp) e1 e2
    refine ⟨a1, xs, congrArg (fun z => [z]) h1, ?_, fun p hp => k _ _ _ _ ⟨f, R.pop.newL hp dx⟩⟩
    cases bb with
    | true => exact .inl (.inl (by simpa using q1))
    | false => exact .inr (by simpa using q1)) h
/-- list(range(n)) -/
def rangeD (n : Int) : List Dat := (List.range n.toNat).map fun (i : Nat) => .int i
def gListRg : Slot → Env → Option (Slot × Env) := fun s Γ => match s with
  | .d (.int n) => if 0 ≤ n ∧ n ≤ (lim : Int) then some (.own (.lst (rangeD n)), Γ) else none
  | _ => none
theorem dens_range (H : Hp) : ∀ (l : List Nat), Dens K H (l.map fun (i : Nat) => V.int ((0 : Int) + (i : Nat))) (l.map fun (i : Nat) => PyData.int i)
  | [] => .nil
  | n :: l => by rw [List.map_cons, List.map_cons, Int.zero_add]; exact .cons (.int _) (by simpa using dens_range H l)
theorem d_listRg {q1 : Pos} {a : Expr} {ma : M} (c : Cok kk X) (ha : PE X a (tM X.K ma)) (hm : X.mg "list" = none) (hm2 : X.mg "range" = none) (hg : Gl X "list" := by rfl) (hg2 : Gl X "range" := by rfl) (na : starEach [a] X.env = (false, eval a X.env) :: starEach [] X.env := by rfl)
    (na2 : starEach [.Call (.Name "range" q1) [a] [] p2] X.env = (false, eval (.Call (.Name "range" q1) [a] [] p2) X.env) :: starEach [] X.env := by rfl) :
    PE X (.Call (.Name "list" p) [.Call (.Name "range" q1) [a] [] p2] [] pos) (tM X.K (mUn gListRg ma)) :=
  PE.imp (pe_listRg c.calm hg hm (prg_1 hg2 hm2 ha na) na2) fun σ H Q h => by
    obtain ⟨B, Hf, Γ, ps, r, Γ', R, e, k⟩ := h
    obtain ⟨⟨s1, Γ1⟩, e1, e⟩ := bindE e
    refine ⟨B, Hf, Γ, ps, s1, Γ1, R, e1, fun x fp1 Hf1 H1 ⟨f, R1⟩ => ?_⟩
    revert e
    cases s1 with
    | d z =>
      cases z with
      | int n =>
        intro e
        simp only [gListRg] at e
        split at e
        · rename_i hn
          simp only [Option.some.injEq, Prod.mk.injEq] at e
          obtain ⟨rfl, rfl⟩ := e
          have q := (R1.pend _ List.mem_cons_self).2
          cases q
          have hl : (n.toNat : Int) = n := Int.toNat_of_nonneg hn.1
          have e0 : (n - 0).toNat = n.toNat := by rw [Int.sub_zero]
          have h1 := hn.1
          have h2 := hn.2
          have l1 : (lim : Int) < 2 ^ 62 := by decide
          have l2 : (lim : Nat) ≤ 2 ^ 24 := by decide
          refine ⟨n, rfl, ⟨by decide, by decide, by omega, by omega, ?_⟩, fun p hp => k _ _ _ _ ⟨f, R1.pop.newL hp ?_⟩⟩
          · rw [e0]
            omega
          · unfold rgV rangeD
            rw [e0]
            exact dens_range _ _
        · cases e
      | _ => intro e; cases e
    | _ => intro e; cases e
end
end DL

set_option Elab.async false
set_option linter.all false
set_option maxRecDepth 100000
set_option maxHeartbeats 4000000
namespace DL
open PySem L2
variable [TabsC]
def NoBor (ps : List Pend) : Prop := ∀ p ∈ ps, ∀ j, p.s ≠ .bor j
theorem NoBor.nil : NoBor [] := fun _ h => nomatch h
section
variable {K : PySem.W.Frag} {B : Base} {Hf H Hf' H' : Hp} {σ σ' : St} {Γ Γ' : Env} {f f' : Nat → List Addr} {ps ps' : List Pend} {a : Addr} {o : Own} {fp : List Addr} {v w : V} {s t : Slot}
/-- slots told anew, without what they owned -/
theorem ReachF.remap (R : ReachF K B Hf H σ Γ f ps) (hl : σ'.length = σ.length) (hl2 : Γ'.length = Γ.length) (nb : NoBor ps)
    (h : ∀ (i : Nat) (g : Slot), Γ'[i]? = some g → (Γ[i]? = some g ∧ σ'[i]? = σ[i]?) ∨ (SlotOk K Hf H σ'[i]? g [] ∧ ∀ o, g ≠ .own o)) : ∃ f', ReachF K B Hf H σ' Γ' f' ps := by
  classical
  have own : ∀ (i : Nat) (g : Slot), (¬ (Γ[i]? = some g ∧ σ'[i]? = σ[i]?)) → Γ'[i]? = some g → SlotOk K Hf H σ'[i]? g [] := fun i g n e => by
    rcases h i g e with z | z
    · exact absurd z n
    · exact z.1
  refine ⟨fun i => if Γ'[i]? = Γ[i]? ∧ σ'[i]? = σ[i]? then f i else [], ?_⟩
  have sub : ∀ i a, a ∈ (if Γ'[i]? = Γ[i]? ∧ σ'[i]? = σ[i]? then f i else []) → a ∈ f i := fun i a ha => by
    split at ha
    · exact ha
    · cases ha
  refine ⟨by rw [hl, hl2]; exact R.len, R.sub, fun i g e => ?_, fun i e => ?_, fun i j a ha hb => R.disj i j a (sub i a ha) (sub j a hb), fun p hp => ?_, R.pdis, fun p hp a ha i hb => R.psl p hp a ha i (sub i a hb), R.ex, R.keep, R.dom, R.new, fun i a ha => R.own i a (sub i a ha), R.pown, R.tab⟩
  · by_cases c : Γ[i]? = some g ∧ σ'[i]? = σ[i]?
    · have c' : Γ'[i]? = Γ[i]? ∧ σ'[i]? = σ[i]? := ⟨e.trans c.1.symm, c.2⟩
      rw [if_pos c', c.2]
      exact R.slot i g c.1
    · have c' : ¬ (Γ'[i]? = Γ[i]? ∧ σ'[i]? = σ[i]?) := fun z => c ⟨z.1.symm.trans e, z.2⟩
      rw [if_neg c']
      exact own i g c e
  · split
    · rename_i c
      exact R.out i (c.1.symm.trans e)
    · rfl
  · have q := R.pend p hp
    have n := nb p hp
    obtain ⟨v, s, fp⟩ := p
    cases s with
    | bor j => exact absurd rfl (n j)
    | no => exact q
    | d x => exact q
    | own o => exact q
    | fn a => exact q
/-- what a frame owned is handed out -/
theorem ReachF.move {i : Nat} {o : Own} (R : ReachF K B Hf H σ Γ f (⟨v, .bor i, fp⟩ :: ps)) (hi : Γ[i]? = some (.own o)) : ∃ f', ReachF K B Hf H σ (Γ.set i .no) f' (⟨v, .own o, f i⟩ :: ps) := by
  obtain ⟨_, e0⟩ := R.pend _ List.mem_cons_self
  have hil : i < Γ.length := (List.getElem?_eq_some_iff.mp hi).1
  obtain ⟨a, e1, q1⟩ := R.slot i _ hi
  rw [e0] at e1
  cases e1
  have R2 := R.pop.forget hil
  refine ⟨_, R2.push ⟨a, rfl, q1⟩ (fun b hb => ⟨fun j hj => ?_, fun q hq hc => R.psl q (List.mem_cons_of_mem _ hq) b hc i hb⟩) (fun b hb => R.own i b hb)⟩
  by_cases ej : j = i
  · simp [ej] at hj
  · simp only [ej, if_false] at hj
    exact ej (R.disj j i b hj hb)
end

/-! ### targets -/
abbrev MG := Slot → Env → Option Env
section
variable (K : PySem.W.Frag)
def tG (W : List Nat) (g : MG) : TG := fun v σ H Q => ∃ B Hf Γ ps s fp Γ', Reach K B Hf H σ Γ (⟨v, s, fp⟩ :: ps) ∧ NoBor ps ∧ g s Γ = some Γ' ∧
  ∀ σ' Hf', σ'.length = σ.length → Stay W σ σ' → Ex Hf Hf' → Reach K B Hf' H σ' Γ' ps → Q σ' H
abbrev MGs := List Dat → Env → Option Env
def tGs (W : List Nat) (g : MGs) : TGs := fun vs σ H Q => ∃ B Hf Γ ps ds Γ', Reach K B Hf H σ Γ ps ∧ NoBor ps ∧ Dens K Hf vs ds ∧ g ds Γ = some Γ' ∧
  ∀ σ' Hf', σ'.length = σ.length → Stay W σ σ' → Ex Hf Hf' → Reach K B Hf' H σ' Γ' ps → Q σ' H
end
def setS (i : Nat) : MG := fun s Γ => if i < Γ.length then (match s with
    | .d x => some (Γ.set i (.d x))
    | .own o => some (Γ.set i (.own o))
    | .fn a => some (Γ.set i (.fn a))
    | .bor j => (settle Γ (.bor j)).bind fun q => some (q.2.set i (.d q.1))
    | .no => none) else none
def setN : MGs := fun ds Γ => match ds with
  | [] => some Γ
  | _ => none
def setC (g : MG) (gs : MGs) : MGs := fun ds Γ => match ds with
  | [] => none
  | d :: r => (g (.d d) Γ).bind fun Γ1 => gs r Γ1
def setT (n : Nat) (gs : MGs) : MG := fun s Γ => match s with
  | .d (.tuple l) => if l.length = n then gs l Γ else none
  | _ => none
section
variable {X : Cx} {K : PySem.W.Frag} {a b c e tg : Expr} {ma mb mc : M} {mt mu : MT} {md : MD} {pos : Pos} {k : Nat} {es : List Expr} {W W2 : List Nat} {g : MG} {gs : MGs}
theorem PG.imp {t t' : TG} (h : PG X tg t) (i : ∀ v σ H Q, t' v σ H Q → t v σ H Q) : PG X tg t' := ⟨fun pins s σ H v u Q I r q => h.run pins s σ H v u Q I r (i v σ H Q q)⟩
theorem PGs.imp {t t' : TGs} (h : PGs X es t) (i : ∀ v σ H Q, t' v σ H Q → t v σ H Q) : PGs X es t' := ⟨fun pins s σ H v u Q I r q => h.run pins s σ H v u Q I r (i v σ H Q q)⟩
theorem stay_set (i : Nat) (σ : St) (v : Option V) : Stay [i] σ (σ.set i v) := fun j hj => by
  rw [List.getElem?_set_ne (fun e => hj (by simp [e]))]
theorem store_all {B : Base} {Hf H : Hp} {σ : St} {Γ Γ' : Env} {ps : List Pend} {v : V} {s : Slot} {fp : List Addr} {i : Nat} (R : Reach K B Hf H σ Γ (⟨v, s, fp⟩ :: ps)) (nb : NoBor ps) (e : setS i s Γ = some Γ') :
    ∃ Hf', Ex Hf Hf' ∧ Reach K B Hf' H (σ.set i (some v)) Γ' ps := by
  unfold setS at e
  split at e
  · rename_i hl
    have nbj : ∀ p ∈ ps, ∀ j, p.s = .bor j → j ≠ i := fun p hp j h => absurd h (nb p hp j)
    cases s with
    | no => cases e
    | d x => cases e; obtain ⟨f, R⟩ := R; exact ⟨Hf, Evl.Ex.refl _, _, R.store hl rfl nbj⟩
    | own o => cases e; obtain ⟨f, R⟩ := R; exact ⟨Hf, Evl.Ex.refl _, _, R.store hl rfl nbj⟩
    | fn a => cases e; obtain ⟨f, R⟩ := R; exact ⟨Hf, Evl.Ex.refl _, _, R.store hl rfl nbj⟩
    | bor j =>
      simp only at e
      obtain ⟨⟨x, Γ1⟩, e1, e⟩ := bindE e
      cases e
      obtain ⟨Hf', ex, f', R'⟩ := R.settle e1
      exact ⟨Hf', ex, _, R'.store (by rw [settle_len e1]; exact hl) rfl nbj⟩
  · cases e
theorem dg_name (i : Nat) {x : Str} (c : Cok k X) (hi : X.N[i]? = some x := by rfl) (hx : Loc X.env.scope x := by first | exact Or.inl rfl | exact Or.inr rfl) (hf : X.fn x = true ∨ X.env.scope.names.lookup x = some .local := by first | exact .inl rfl | exact .inr rfl) : PG X (.Name x pos) (tG X.K [i] (setS i)) :=
  PG.imp (pg_name c.nd hi hx hf) fun v σ H Q h => by
    obtain ⟨B, Hf, Γ, ps, s, fp, Γ', R, nb, e, k⟩ := h
    obtain ⟨Hf', ex, R'⟩ := store_all R nb e
    exact k _ Hf' (by rw [List.length_set]) (stay_set _ _ _) ex R'
theorem dgs_nil : PGs X [] (tGs X.K [] setN) := PGs.imp pgs_nil fun v σ H Q h => by
  obtain ⟨B, Hf, Γ, ps, ds, Γ', R, nb, dv, e, k⟩ := h
  cases dv with
  | nil => cases e; exact ⟨rfl, k σ Hf rfl (Stay.refl _ _) (Evl.Ex.refl _) R⟩
  | cons _ _ => cases e
theorem dgs_cons (h1 : PG X e (tG X.K W g)) (h2 : PGs X es (tGs X.K W2 gs)) (hs : (assignEach (e :: es) X.env).map (·.2) = assign e X.env :: (assignEach es X.env).map (·.2) := by rfl) : PGs X (e :: es) (tGs X.K (W ++ W2) (setC g gs)) :=
  PGs.imp (pgs_cons h1 h2 hs) fun v σ H Q h => by
    obtain ⟨B, Hf, Γ, ps, ds, Γ', R, nb, dv, e, k⟩ := h
    cases dv with
    | nil => cases e
    | cons d1 dr =>
      obtain ⟨Γ1, e1, e2⟩ := bindE e
      obtain ⟨f, R⟩ := R
      refine ⟨_, _, rfl, B, Hf, Γ, ps, _, [], Γ1, ⟨f, R.pushD d1⟩, nb, e1, fun σ' Hf1 l1 s1 ex1 R1 => ?_⟩
      exact ⟨B, Hf1, Γ1, ps, _, Γ', R1, nb, dr.mono ex1, e2, fun σ2 Hf2 l2 s2 ex2 R2 => k σ2 Hf2 (l2.trans l1) ((s1.mono fun i hi => List.mem_append_left _ hi).trans (s2.mono fun i hi => List.mem_append_right _ hi)) (ex1.trans ex2) R2⟩
theorem dg_tup {j n : Nat} (c : Cok k X) (h : PGs X es (tGs X.K W gs)) (hn : (assignEach es X.env).length = n := by rfl) (hst : (assignEach es X.env).findIdx? (·.1) = none := by rfl) : PG X (.Tuple es j pos) (tG X.K W (setT n gs)) :=
  PG.imp (pg_tup c.calm h hn hst) fun v σ H Q h => by
    obtain ⟨B, Hf, Γ, ps, s, fp, Γ', ⟨f, R⟩, nb, e, k⟩ := h
    cases s with
    | d x =>
      cases x <;> simp only [setT, reduceCtorEq] at e
      split at e
      · rename_i hl
        have q := (R.pend _ List.mem_cons_self).2
        cases q with
        | tup h1 h2 =>
          exact ⟨_, _, rfl, Evl.ex_t R.sub h1, h2.length.trans hl, B, Hf, Γ, ps, _, Γ', ⟨f, R.pop⟩, nb, h2, e, k⟩
      · cases e
    | _ => cases e

/-! ### statements -/
variable {st : Stmt} {rest body orelse : List Stmt} {m m1 m2 : MS}
def mNext : MS := fun Γ => some (.nx, Γ)
def mSeq (m1 m2 : MS) : MS := fun Γ => (m1 Γ).bind fun p => match p.1 with
  | .nx => m2 p.2
  | f => some (f, p.2)
theorem of_mono {D : Ends} {B : Base} {σ σ1 : St} {Γ' : Env} {fl : Flw} (h : Ends.of K D (W ++ W2) σ B Γ' fl) (s1 : Stay W σ σ1) : Ends.of K D W2 σ1 B Γ' fl := by
  have go : ∀ {σ'}, Stay W2 σ1 σ' → Stay (W ++ W2) σ σ' := fun {σ'} s2 => (s1.mono fun i hi => List.mem_append_left _ hi).trans (s2.mono fun i hi => List.mem_append_right _ hi)
  cases fl with
  | nx => exact fun σ' Hf' H' s2 R => h σ' Hf' H' (go s2) R
  | ret r => exact fun σ' v fp Hf' H' s2 R => h σ' v fp Hf' H' (go s2) R
  | bk => exact fun σ' Hf' H' s2 R => h σ' Hf' H' (go s2) R
  | ct => exact fun σ' Hf' H' s2 R => h σ' Hf' H' (go s2) R
theorem of_left {D : Ends} {B : Base} {σ : St} {Γ' : Env} {fl : Flw} (h : Ends.of K D (W ++ W2) σ B Γ' fl) : Ends.of K D W σ B Γ' fl := by
  have go : ∀ {σ'}, Stay W σ σ' → Stay (W ++ W2) σ σ' := fun {σ'} s2 => s2.mono fun i hi => List.mem_append_left _ hi
  cases fl with
  | nx => exact fun σ' Hf' H' s2 R => h σ' Hf' H' (go s2) R
  | ret r => exact fun σ' v fp Hf' H' s2 R => h σ' v fp Hf' H' (go s2) R
  | bk => exact fun σ' Hf' H' s2 R => h σ' Hf' H' (go s2) R
  | ct => exact fun σ' Hf' H' s2 R => h σ' Hf' H' (go s2) R
theorem of_right {D : Ends} {B : Base} {σ : St} {Γ' : Env} {fl : Flw} (h : Ends.of K D (W ++ W2) σ B Γ' fl) : Ends.of K D W2 σ B Γ' fl := of_mono h (Stay.refl _ _)
theorem dss_nil : PSs X [] (tS X.K [] mNext) := PSs.imp pss_nil fun D σ H h => by
  obtain ⟨B, Hf, Γ, fl, Γ', R, e, k⟩ := h
  cases e
  exact k σ Hf H (Stay.refl _ _) R
theorem dss_cons (h1 : PS X st (tS X.K W m1)) (h2 : PSs X rest (tS X.K W2 m2)) : PSs X (st :: rest) (tS X.K (W ++ W2) (mSeq m1 m2)) := PSs.imp (pss_cons h1 h2) fun D σ H h => by
  obtain ⟨B, Hf, Γ, fl, Γ', R, e, k⟩ := h
  obtain ⟨⟨f1, Γ1⟩, e1, e⟩ := bindE e
  refine ⟨B, Hf, Γ, f1, Γ1, R, e1, ?_⟩
  cases f1 with
  | nx => exact fun σ1 Hf1 H1 s1 R1 => ⟨B, Hf1, Γ1, fl, Γ', R1, e, of_mono k s1⟩
  | ret r => cases e; exact of_left k
  | bk => cases e; exact of_left k
  | ct => cases e; exact of_left k
theorem dss_one (h1 : PS X st (tS X.K W m1)) : PSs X [st] (tS X.K W m1) := pss_one h1
theorem ds_pass : PS X (.Pass pos) (tS X.K [] mNext) := PS.imp ps_pass fun D σ H h => by
  obtain ⟨B, Hf, Γ, fl, Γ', R, e, k⟩ := h
  cases e
  exact k σ Hf H (Stay.refl _ _) R
def mBrk : MS := fun Γ => some (.bk, Γ)
def mCnt : MS := fun Γ => some (.ct, Γ)
theorem ds_break : PS X (.Break pos) (tS X.K [] mBrk) := PS.imp ps_break fun D σ H h => by
  obtain ⟨B, Hf, Γ, fl, Γ', R, e, k⟩ := h
  cases e
  exact k σ Hf H (Stay.refl _ _) R
theorem ds_cont : PS X (.Continue pos) (tS X.K [] mCnt) := PS.imp ps_continue fun D σ H h => by
  obtain ⟨B, Hf, Γ, fl, Γ', R, e, k⟩ := h
  cases e
  exact k σ Hf H (Stay.refl _ _) R
/-- code that is never come to -/
def mNever : MS := fun _ => none
theorem ds_never : PS X st (tS X.K [] mNever) := PS.imp ps_never fun D σ H h => by
  obtain ⟨B, Hf, Γ, fl, Γ', R, e, k⟩ := h
  cases e
/-- an expression whose value is dropped -/
def mDrop (m : M) : MS := fun Γ => (m Γ).bind fun p => some (.nx, p.2)
theorem ds_expr (ha : PE X a (tM X.K ma)) (hs : swapsWith a none pos.line X.env = pure false := by rfl) : PS X (.Expr a pos) (tS X.K [] (mDrop ma)) := PS.imp (ps_expr ha hs) fun D σ H h => by
  obtain ⟨B, Hf, Γ, fl, Γ', R, e, k⟩ := h
  obtain ⟨⟨s1, Γ1⟩, e1, e⟩ := bindE e
  cases e
  exact ⟨B, Hf, Γ, [], s1, Γ1, R, e1, fun v fp Hf1 H1 ⟨f, R1⟩ => k σ Hf1 H1 (Stay.refl _ _) ⟨f, R1.pop⟩⟩
/-- return: what the frame made is handed out, what it was handed (the first n names) is frozen -/
def outS (n : Nat) (s : Slot) (Γ : Env) : Option (Slot × Env) := match s with
  | .d x => some (.d x, Γ)
  | .own o => some (.own o, Γ)
  | .fn a => some (.fn a, Γ)
  | .no => none
  | .bor i => match Γ[i]? with
    | some (.own o) => if n ≤ i then some (.own o, Γ.set i .no) else some (.d o.dat, Γ.set i (.d o.dat))
    | some (.d x) => some (.d x, Γ)
    | _ => none
def mRet (n : Nat) (m : M) : MS := fun Γ => (m Γ).bind fun p => (outS n p.1 p.2).bind fun q => some (.ret q.1, q.2)
theorem out_all {n : Nat} {B : Base} {Hf H : Hp} {σ : St} {Γ Γ' : Env} {ps : List Pend} {v : V} {s r : Slot} {fp : List Addr} (R : Reach K B Hf H σ Γ (⟨v, s, fp⟩ :: ps)) (e : outS n s Γ = some (r, Γ')) :
    ∃ Hf' fp', Reach K B Hf' H σ Γ' (⟨v, r, fp'⟩ :: ps) := by
  cases s with
  | no => cases e
  | d x => cases e; exact ⟨Hf, fp, R⟩
  | own o => cases e; exact ⟨Hf, fp, R⟩
  | fn a => cases e; exact ⟨Hf, fp, R⟩
  | bor i =>
    simp only [outS] at e
    split at e
    · rename_i o ho
      split at e
      · cases e
        obtain ⟨f, R⟩ := R
        obtain ⟨f', R'⟩ := R.move ho
        exact ⟨Hf, _, f', R'⟩
      · cases e
        obtain ⟨Hf', _, R'⟩ := R.settle (x := o.dat) (Γ' := Γ.set i (.d o.dat)) (by simp only [settle, ho])
        exact ⟨Hf', _, R'⟩
    · rename_i x hx
      cases e
      obtain ⟨Hf', _, R'⟩ := R.settle (x := x) (Γ' := Γ) (by simp only [settle, hx])
      exact ⟨Hf', _, R'⟩
    · cases e
theorem ds_ret (n : Nat) (ha : PE X a (tM X.K ma)) : PS X (.Return (some a) pos) (tS X.K [] (mRet n ma)) := PS.imp (ps_ret ha) fun D σ H h => by
  obtain ⟨B, Hf, Γ, fl, Γ', R, e, k⟩ := h
  obtain ⟨⟨s1, Γ1⟩, e1, e⟩ := bindE e
  obtain ⟨⟨r, Γ2⟩, e2, e⟩ := bindE e
  cases e
  refine ⟨B, Hf, Γ, [], s1, Γ1, R, e1, fun v fp Hf1 H1 R1 => ?_⟩
  obtain ⟨Hf2, fp2, R2⟩ := out_all R1 e2
  exact k σ v fp2 Hf2 H1 (Stay.refl _ _) R2
def mRetN : MS := fun Γ => some (.ret (.d .none), Γ)
theorem ds_retN : PS X (.Return none pos) (tS X.K [] mRetN) := PS.imp ps_retN fun D σ H h => by
  obtain ⟨B, Hf, Γ, fl, Γ', ⟨f, R⟩, e, k⟩ := h
  cases e
  exact k σ _ [] Hf H (Stay.refl _ _) ⟨f, R.pushD .non⟩
def mSet (g : MG) (m : M) : MS := fun Γ => (m Γ).bind fun p => (g p.1 p.2).bind fun Γ' => some (.nx, Γ')
theorem set_imp {i : Nat} {te : TE} (hi : ∀ σ H Q, tM K ma σ H Q → te σ H Q) {D : Ends} {σ : St} {H : Hp} (h : tS K [i] (mSet (setS i) ma) D σ H) : tAsg te (gName i) D σ H := by
  obtain ⟨B, Hf, Γ, fl, Γ', R, e, k⟩ := h
  obtain ⟨⟨s1, Γ1⟩, e1, e⟩ := bindE e
  obtain ⟨Γ2, e2, e⟩ := bindE e
  cases e
  refine hi _ _ _ ⟨B, Hf, Γ, [], s1, Γ1, R, e1, fun v fp Hf1 H1 R1 => ?_⟩
  obtain ⟨Hf2, _, R2⟩ := store_all R1 NoBor.nil e2
  exact k _ Hf2 H1 (stay_set _ _ _) R2
theorem ds_set (i : Nat) {x : Str} {pos' : Pos} (c : Cok k X) (ha : PE X a (tM X.K ma)) (hi : X.N[i]? = some x := by rfl) (hx : Loc X.env.scope x := by first | exact Or.inl rfl | exact Or.inr rfl) (hs : swapsWith a (some (.Name x pos')) pos.line X.env = pure false := by rfl)
    (hf : X.fn x = true ∨ X.env.scope.names.lookup x = some .local := by first | exact .inl rfl | exact .inr rfl) : PS X (.Assign [.Name x pos'] a pos) (tS X.K [i] (mSet (setS i) ma)) :=
  PS.imp (ps_set c.nd hi hx ha hs hf) fun D σ H h => set_imp (fun _ _ _ q => q) h
/-- target = value, any target -/
theorem ds_asg (ha : PE X a (tM X.K ma)) (hg : PG X tg (tG X.K W g)) (hs : swapsWithSole [tg] a pos.line X.env = pure false := by rfl) (hw : swappedStores [tg] a X.env = pure none := by rfl) (h1 : (assignEach [tg] X.env).map (·.2) = [assign tg X.env] := by rfl) :
    PS X (.Assign [tg] a pos) (tS X.K W (mSet g ma)) := PS.imp (ps_asg ha hg hs hw h1) fun D σ H h => by
  obtain ⟨B, Hf, Γ, fl, Γ', R, e, k⟩ := h
  obtain ⟨⟨s1, Γ1⟩, e1, e⟩ := bindE e
  obtain ⟨Γ2, e2, e⟩ := bindE e
  cases e
  exact ⟨B, Hf, Γ, [], s1, Γ1, R, e1, fun v fp Hf1 H1 R1 => ⟨B, Hf1, Γ1, [], s1, fp, _, R1, NoBor.nil, e2, fun σ' Hf2 _ s2 _ R2 => k σ' Hf2 H1 s2 R2⟩⟩
/-- x += e of ints -/
def mAug (i : Nat) (g : Int → Int → Int) (ma : M) : MS := fun Γ => match Γ[i]? with
  | some (.d (.int n)) => (ma Γ).bind fun p => match p.1 with
    | .d (.int z) => some (.nx, p.2.set i (.d (.int (g n z))))
    | _ => none
  | _ => none
theorem ds_aug (i : Nat) {x : Str} {pos' : Pos} {op : Operator} {gf : Int → Int → Int} (ho : PIp X op (ipI gf)) (c : Cok k X) (ha : PE X a (tM X.K ma)) (hi : X.N[i]? = some x := by rfl) (hx : Loc X.env.scope x := by first | exact Or.inl rfl | exact Or.inr rfl)
    (hf : X.fn x = true ∨ X.env.scope.names.lookup x = some .local := by first | exact .inl rfl | exact .inr rfl) : PS X (.AugAssign (.Name x pos') op a pos) (tS X.K [i] (mAug i gf ma)) := PS.imp (ps_aug c.nd hi hx ha ho hf) fun D σ H h => by
  obtain ⟨B, Hf, Γ, fl, Γ', ⟨f, R⟩, e, k⟩ := h
  unfold mAug at e
  split at e
  · rename_i n hn
    obtain ⟨_, v, e1, q1⟩ := R.slot i _ hn
    cases q1
    have hil : i < Γ.length := (List.getElem?_eq_some_iff.mp hn).1
    obtain ⟨⟨s1, Γ1⟩, e2, e⟩ := bindE e
    refine ⟨.int n, e1, _, Hf, Γ, [], s1, Γ1, ⟨f, R.base⟩, e2, fun y fp Hf1 H1 ⟨f1, R1⟩ => ?_⟩
    revert e
    cases s1 with
    | d z =>
      cases z with
      | int z =>
        intro e
        cases e
        have q := (R1.pend _ List.mem_cons_self).2
        cases q
        refine ⟨n, z, rfl, rfl, ?_⟩
        have R2 := R.trans (ps := []) R1.pop (.inl rfl)
        have hl1 : i < Γ1.length := by rw [← R1.len, R.len]; exact hil
        exact k _ Hf1 H1 (stay_set _ _ _) ⟨_, (R2.pushD (v := .int (gf n z)) (.int _)).store hl1 rfl (by simp)⟩
      | _ => intro e; cases e
    | _ => intro e; cases e
  · cases e
def mIfS (mt : MT) (m1 m2 : MS) : MS := fun Γ => (mt Γ).bind fun p => if p.1 then m1 p.2 else m2 p.2
theorem ds_if (hc : PT X c (tT X.K mt)) (h1 : PSs X body (tS X.K W m1)) (h2 : PSs X orelse (tS X.K W2 m2)) : PS X (.If c body orelse pos) (tS X.K (W ++ W2) (mIfS mt m1 m2)) := PS.imp (ps_if hc h1 h2) fun D σ H h => by
  obtain ⟨B, Hf, Γ, fl, Γ', R, e, k⟩ := h
  obtain ⟨⟨b1, Γ1⟩, e1, e⟩ := bindE e
  refine ⟨B, Hf, Γ, [], b1, Γ1, R, e1, fun Hf1 H1 R1 => ?_⟩
  cases b1 with
  | true => exact ⟨B, Hf1, Γ1, fl, Γ', R1, by simpa using e, of_left k⟩
  | false => exact ⟨B, Hf1, Γ1, fl, Γ', R1, by simpa using e, of_right k⟩
/-! while: fuel -/
def whL (mt : MT) (m : MS) : Nat → MS
  | 0, _ => none
  | n + 1, Γ => (mt Γ).bind fun p => if p.1 then (m p.2).bind fun q => match q.1 with
      | .nx => whL mt m n q.2
      | .ct => whL mt m n q.2
      | .bk => some (.nx, q.2)
      | .ret r => some (.ret r, q.2)
    else some (.nx, p.2)
theorem ds_while (n : Nat) (hp : PassesOwn (model X.prog X.w) X.A X.env X.xe) (hc : PT X c (tT X.K mt)) (hb : PSs X body (tS X.K W m)) : PS X (.While c body [] pos) (tS X.K W (whL mt m n)) := PS.imp (ps_while hp hc hb) fun D σ H h => by
  obtain ⟨B, Hf, Γ, fl, Γ', R, e, k⟩ := h
  refine ⟨fun j σ' H' => Stay W σ σ' ∧ ∃ Hf' Γi, Reach X.K B Hf' H' σ' Γi [] ∧ whL mt m j Γi = some (fl, Γ'), ⟨n, Stay.refl _ _, Hf, Γ, R, e⟩, ?_⟩
  rintro j σ1 H1 ⟨s1, Hf1, Γ1, R1, e1⟩
  cases j with
  | zero => cases e1
  | succ j =>
    obtain ⟨⟨b1, Γ2⟩, e2, e1⟩ := bindE e1
    refine ⟨B, Hf1, Γ1, [], b1, Γ2, R1, e2, fun Hf2 H2 R2 => ?_⟩
    cases b1 with
    | false =>
      simp only [Bool.false_eq_true, if_false] at e1 ⊢
      cases e1
      exact k σ1 Hf2 H2 s1 R2
    | true =>
      simp only [if_true] at e1 ⊢
      obtain ⟨⟨f3, Γ3⟩, e3, e1⟩ := bindE e1
      refine ⟨fun σ' H' => Stay W σ σ' ∧ ∃ Hf' Γi, Reach X.K B Hf' H' σ' Γi [] ∧ whL mt m j Γi = some (fl, Γ'), fun σ' H' h => ⟨j, Nat.lt_succ_self _, h⟩, B, Hf2, Γ2, f3, Γ3, R2, e3, ?_⟩
      cases f3 with
      | nx => exact fun σ' Hf' H' s2 R' => ⟨s1.trans s2, Hf', Γ3, R', e1⟩
      | ct => exact fun σ' Hf' H' s2 R' => ⟨s1.trans s2, Hf', Γ3, R', e1⟩
      | bk => cases e1; exact fun σ' Hf' H' s2 R' => k σ' Hf' H' (s1.trans s2) R'
      | ret r => cases e1; exact fun σ' v fp Hf' H' s2 R' => k σ' v fp Hf' H' (s1.trans s2) R'
end
end DL

set_option Elab.async false
set_option linter.all false
set_option maxRecDepth 100000
set_option maxHeartbeats 4000000
/-! enumerate over a tuple -/
namespace PySem
open Sem (wp)
open AutoSeq1 (wpAny_loadPart')
theorem dl_meets_enumerate {v : Value} {o : Obj} {H : Heap → Prop} (B : Begins v o H) :
    Meets (Builtin.«enumerate.__new__» ⟨[.type "enumerate", v], []⟩) (fun _ R s => H s.heap ∧
      R (.ok (.ret (.ref (s.heap.push o).objs.size))) { s with heap := (s.heap.push o).push { cls := .type "enumerate", data := .fields #[.none, .bool false, .ref s.heap.objs.size, rawInt 0, .none, .none] } }) :=
  .of_wp fun prog w A R s h => by
    obtain ⟨hp, g, d, tk, os⟩ := s; obtain ⟨h1, h⟩ := h
    have hsub := sub_enumerate
    have q1 : ∀ {A' : Around} {E : Value → Shared → Prop} {Q : Value → Shared → Prop}, Q (.ref hp.objs.size) ⟨hp.push o, g, d, tk, os⟩ → wpAny (model prog w) A' (pyIter v) Q E ⟨hp, g, d, tk, os⟩ :=
      fun q => B.iter prog w _ _ ⟨hp, g, d, tk, os⟩ _ h1 q
    wp_walk using q1
    refine wpAny_stack_any fun st => wpAny_pure ?_
    split
    · rename_i c _ _ _ _ _
      cases (c == Value.type "enumerate")
      · wp_walk using q1
        exact ⟨_, rfl, h⟩
      · wp_walk using q1
        exact ⟨_, rfl, h⟩
    · wp_walk using q1
      exact ⟨_, rfl, h⟩
set_option maxHeartbeats 4000000 in
theorem dl_call_enumerate {prog : Program} {w : World} {A : Around} {E : Value → Shared → Prop} {s : Shared} {v : Value} {o : Obj} {H : Heap → Prop} {Q : Value → Shared → Prop} (B : Begins v o H) (h1 : H s.heap)
    (h : ∀ h', IsEnum h' (s.heap.objs.size + 1) s.heap.objs.size 0 .none → h'.get? s.heap.objs.size = some o → h'.objs.size = s.heap.objs.size + 2 →
      (∀ b u, s.heap.get? b = some u → h'.get? b = some u) → Q (.ref (s.heap.objs.size + 1)) { s with heap := h' }) :
    wpAny (model prog w) A (call (.type "enumerate") [v]) Q E s := by
  refine callType_new F.called_enumerate (by decide) (F.typeCall_enumerate_1 _) (F.newCall_enumerate_1 _) (fun obj => F.args_object_init_2 obj _) F.entry_enumerate_new (dl_meets_enumerate B) ⟨h1, ?_⟩
  have hz : (s.heap.push o).objs.size = s.heap.objs.size + 1 := Heap.size_push ..
  show _ ∧ _
  rw [hz]
  have he : IsEnum ((s.heap.push o).push { cls := .type "enumerate", data := .fields #[.none, .bool false, .ref s.heap.objs.size, rawInt 0, .none, .none] }) (s.heap.objs.size + 1) s.heap.objs.size 0 .none := by
    have := Heap.get?_push_size (s.heap.push o) (o := { cls := .type "enumerate", data := .fields #[.none, .bool false, .ref s.heap.objs.size, rawInt 0, .none, .none] }) rfl
    rw [hz] at this; exact this
  refine ⟨⟨_, he, rfl⟩, h _ he (Heap.get?_push_of_some _ (Heap.get?_push_size _ B.free)) (by rw [Heap.size_push, hz]) fun b u x => Heap.get?_push_of_some _ (Heap.get?_push_of_some _ x)⟩
end PySem
namespace DL
open PySem L2
variable [TabsC]
/-- the items of the tuple at a, numbered, in new pairs -/
def IteT (K : PySem.W.Frag) (a : Addr) : It :=
  ⟨fun i H => ∃ (xs : List V) (x : V), SqT K H a xs ∧ xs[i]? = some x, fun i H v H' => ∃ T x, v = .ref T ∧ H T = none ∧ H' = upd H T (.tup [.int (i : Nat), x]) ∧ ∀ xs, SqT K H a xs → xs[i]? = some x, fun i H => ∃ xs : List V, SqT K H a xs ∧ xs.length = i⟩
theorem turn_enumT {P : Program} {w : World} {K : PySem.W.Frag} {elts : List Expr} {kk : Nat} {tpos : Pos} (a e it : Addr) (hae : a ≠ it) (hae2 : a ≠ e) :
    Turn P w K (.Tuple elts kk tpos) (IteT K a) [e, it] e (fun i h => (∃ old, IsEnum h e it ((i : Nat) : Int) old) ∧ h.IsTupleIter it a i ∧ e ≠ it) where
  mem := by simp
  obj := fun i h st b hb => by
    obtain ⟨⟨old, he⟩, ⟨o, ho, hc, hd⟩, _⟩ := st
    have e' : b = e ∨ b = it := by simpa using hb
    rcases e' with z | z
    · rw [z]; exact ⟨_, he, fun v q => nomatch q⟩
    · rw [z]; exact ⟨o, ho, fun v q => by rw [hd] at q; cases q⟩
  keep := fun i h h' st k => let ⟨⟨old, he⟩, hi, hne⟩ := st; ⟨⟨old, k e (by simp) _ he⟩, hi.at fun o q => k it (by simp) o q, hne⟩
  item := by
    intro X hP hw hK hc i pins s σ H E I hf st hg
    subst hP hw hK
    obtain ⟨⟨old, he⟩, hit, hne⟩ := st
    obtain ⟨xs, x, hq, hx⟩ := hg
    obtain ⟨its, rv, p, hz⟩ := I.tuple hq
    obtain ⟨u, hu, ru⟩ := rv.get hx
    have hel : e < s.heap.objs.size := Heap.lt_size he
    have hil : it < s.heap.objs.size := by obtain ⟨_, q, _⟩ := hit; exact Heap.lt_size q
    have D := Draws.tuple (prog := X.prog) (w := X.w) (A := X.A.in1) (I.ok.hd hc) it a hae its.toArray
    have hlt : i < its.toArray.size := by
      have := (List.getElem?_eq_some_iff.mp hu).1
      simpa using this
    refine wpAny_pyNext_enum_itemD D he ⟨hit, p⟩ hlt hne (by simp; exact ⟨hne, fun z => hae2 z.symm⟩) fun x' h' tk hx' ho hst' hT hsz hk => ?_
    obtain rfl : x' = u := by
      have : some u = some x' := by rw [← hx']; simpa using hu.symm
      exact (Option.some.inj this).symm
    refine ⟨_, rfl, wpAny_letOwnedTupleGo_enum (s := { s with heap := h', toks := tk + 1 }) ho fun h'' he' sb => ?_⟩
    have hT2 : h''.get? s.heap.objs.size = some { cls := .type "tuple", data := .seq #[.int i tk, x'] } := (sb.2 _ (Nat.ne_of_gt hel)).trans hT
    have new : ObjOk X.prog X.w (upd H s.heap.objs.size (.tup [.int (i : Nat), x])) h'' s.heap.objs.size (.tup [.int (i : Nat), x]) :=
      ⟨by show 2 ≤ sizeLine; decide, [.int i tk, x'], .cons ⟨_, rfl⟩ (.cons ru .nil), ⟨_, hT2, rfl, _, rfl⟩⟩
    have I1 : Inv X pins σ (upd H s.heap.objs.size (.tup [.int (i : Nat), x])) { s with heap := h'', toks := tk + 1 } :=
      I.turnedNew (ch := [e, it]) (fun b ob hb q => (sb.2 b (fun z => hb (by simp [z]))).trans (hk b ob (fun z => hb (by simp [z])) (fun z => hb (by simp [z])) q)) hf (Nat.le_refl _) new
    refine ⟨.ref s.heap.objs.size, _, I1, rfl, ⟨_, x, rfl, I.hok.fresh (Nat.le_refl _), rfl, fun ys hy => by rw [I.tuple_inj hy hq]; exact hx⟩, ⟨⟨x', ?_⟩, hst'.1.at fun o q => (sb.2 it (Ne.symm hne)).trans q, hne⟩, fun b hb => ?_⟩
    · have e1 : ((i + 1 : Nat) : Int) = (i : Int) + 1 := by omega
      rw [e1]; exact he'
    · have hb' : b < s.heap.objs.size := by
        have e' : b = e ∨ b = it := by simpa using hb
        rcases e' with z | z
        · rw [z]; exact hel
        · rw [z]; exact hil
      rw [upd_ne (Nat.ne_of_lt hb')]
      exact (hf b hb).1
  done := by
    intro X hP hw hK hc i pins s σ H E I hf st hg
    subst hP hw hK
    obtain ⟨⟨old, he⟩, hit, hne⟩ := st
    obtain ⟨xs, hq, hx⟩ := hg
    obtain ⟨its, rv, p, hz⟩ := I.tuple hq
    obtain ⟨f0, f1, f2, f3, f4, f5⟩ := hf it (by simp)
    have D := Draws.tuple (prog := X.prog) (w := X.w) (A := X.A.in1) (I.ok.hd hc) it a hae its.toArray
    have hl : its.toArray.size = i := by rw [List.size_toArray, ← rv.length]; exact hx
    subst hl
    exact wpAny_pyNext_enum_endD D he ⟨hit, p⟩ fun h' eb => ⟨rfl, I.turned (t' := s.toks) (fun b o hb q => eb b o hb q) f0 f1 f3 f4 f5⟩
  self := fun A i s Q E st h => let ⟨⟨_, he⟩, _⟩ := st; wpAny_pyIter_enum he h
/-! ### what is walked -/
section
/-- what comes at a turn -/
inductive Yld (K : PySem.W.Frag) (Hf H : Hp) : V → Dat → Hp → Prop
  | old {x : V} {d : Dat} : Den K Hf x d → Yld K Hf H x d H
  | new {T : Addr} {vs : List V} {ds : List Dat} : H T = none → Dens K Hf vs ds → Yld K Hf H (.ref T) (.tuple ds) (upd H T (.tup vs))
def IterOf (K : PySem.W.Frag) (Hf : Hp) (J : It) (items : List Dat) : Prop := ∀ Hf2 H2, Ex Hf Hf2 → Ex Hf2 H2 → ∀ i,
  (∀ d, items[i]? = some d → J.go i H2 ∧ ∀ x H3, J.yld i H2 x H3 → Yld K Hf2 H2 x d H3) ∧ (i = items.length → J.stop i H2)
abbrev MI := Env → Option (List Dat × Env)
def tI (K : PySem.W.Frag) (m : MI) : TI := fun σ H R => ∃ B Hf Γ ps items Γ', Reach K B Hf H σ Γ ps ∧ m Γ = some (items, Γ') ∧ ∀ J Hf' H', Reach K B Hf' H' σ Γ' ps → IterOf K Hf' J items → R J H'
variable {X : Cx} {K : PySem.W.Frag} {a b c e tg : Expr} {ma mb mc : M} {pos : Pos} {k : Nat}
theorem PI.imp {iter : Expr} {t t' : TI} (h : PI X tg iter t) (i : ∀ σ H Q, t' σ H Q → t σ H Q) : PI X tg iter t' := ⟨fun pins s σ H Q I q => h.run pins s σ H Q I (i σ H Q q)⟩
theorem yld_ok {B : Base} {Hf H H3 : Hp} {σ : St} {Γ : Env} {ps : List Pend} {x : V} {d : Dat} (R : Reach K B Hf H σ Γ ps) (y : Yld K Hf H x d H3) : ∃ Hf3, Ex Hf Hf3 ∧ Reach K B Hf3 H3 σ Γ (⟨x, .d d, []⟩ :: ps) := by
  obtain ⟨f, R⟩ := R
  cases y with
  | old h => exact ⟨Hf, Evl.Ex.refl _, f, R.pushD h⟩
  | new h1 h2 => exact ⟨_, ex_upd (Evl.fresh_back R.sub h1), f, R.newT h1 h2⟩
def mSeqI (m : M) : MI := fun Γ => (m Γ).bind fun p => (settle p.2 p.1).bind fun q => (seqOf q.1).bind fun l => some (l.2, q.2)
def iSeq (K : PySem.W.Frag) (tl : TE) : TI := fun σ H R => tl σ H fun x H1 => ∃ a, x = .ref a ∧ (((∃ xs, SqL K H1 a xs) ∧ R (Itl K a) H1) ∨ ((∃ xs, SqT K H1 a xs) ∧ R (Itt K a) H1))
theorem pi_seq {l : Expr} {tl : TE} (hl : PE X l tl) : PI X tg l (iSeq X.K tl) := by
  refine ⟨fun pins s σ H R I h => ?_⟩
  refine thn (hl.run pins s σ H _ I h) fun v s1 ⟨x, H1, I1, r1, q1⟩ => ?_
  obtain ⟨a, e, q⟩ := q1
  subst e
  cases r1
  have f1 : ∀ b, b ∈ [s1.heap.objs.size] → FpOk X pins H1 b := fun b hb => by
    have e : b = s1.heap.objs.size := by simpa using hb
    subst e
    exact I1.fpOk (Nat.le_refl _) (I1.hok.fresh (Nat.le_refl _))
  rcases q with ⟨⟨xs, hq⟩, q⟩ | ⟨⟨xs, hq⟩, q⟩
  · obtain ⟨its, rv, p, hz⟩ := I1.list hq
    refine wpAny_pyIter_list p.isList ?_
    exact ⟨s1.heap.objs.size, [s1.heap.objs.size], _, _, H1, rfl, I1.kept (t' := s1.toks) fun b o e => Heap.get?_push_of_some _ e, turn_list a _, ⟨_, Heap.get?_push_size _ rfl, rfl, rfl⟩, f1, q⟩
  · obtain ⟨its, rv, p, hz⟩ := I1.tuple hq
    refine wpAny_pyIter_tuple (show s1.heap.IsTuple a its.toArray from p) ?_
    exact ⟨s1.heap.objs.size, [s1.heap.objs.size], _, _, H1, rfl, I1.kept (t' := s1.toks) fun b o e => Heap.get?_push_of_some _ e, turn_tuple a _, ⟨_, Heap.get?_push_size _ rfl, rfl, rfl⟩, f1, q⟩
theorem iterL {Hf : Hp} {a : Addr} {xs : List V} {ds : List Dat} (h : SqL K Hf a xs) (d : Dens K Hf xs ds) : IterOf K Hf (Itl K a) ds := by
  intro Hf2 H2 e1 e2 i
  have h2 : SqL K H2 a xs := Evl.ex_l (e1.trans e2) h
  refine ⟨fun z hz => ?_, fun hl => ⟨xs, h2, by rw [d.length]; exact Nat.le_of_eq hl.symm⟩⟩
  obtain ⟨x, hx, dx⟩ := d.getD hz
  refine ⟨⟨xs, x, h2, hx⟩, fun y H3 hy => ?_⟩
  obtain ⟨rfl, hy⟩ := hy
  have := hy xs h2
  rw [hx] at this
  cases this
  exact .old (dx.mono e1)
theorem iterT {Hf : Hp} {a : Addr} {xs : List V} {ds : List Dat} (h : SqT K Hf a xs) (d : Dens K Hf xs ds) : IterOf K Hf (Itt K a) ds := by
  intro Hf2 H2 e1 e2 i
  have h2 : SqT K H2 a xs := Evl.ex_t (e1.trans e2) h
  refine ⟨fun z hz => ?_, fun hl => ⟨xs, h2, by rw [d.length]; exact Nat.le_of_eq hl.symm⟩⟩
  obtain ⟨x, hx, dx⟩ := d.getD hz
  refine ⟨⟨xs, x, h2, hx⟩, fun y H3 hy => ?_⟩
  obtain ⟨rfl, hy⟩ := hy
  have := hy xs h2
  rw [hx] at this
  cases this
  exact .old (dx.mono e1)
/-- frozen sequences -/
theorem Den.seqF {Hf : Hp} {v : V} {d : Dat} {b : Bool} {l : List Dat} (h : Den K Hf v d) (e : seqOf d = some (b, l)) : ∃ a xs, v = .ref a ∧ Dens K Hf xs l ∧ ((b = true ∧ SqL K Hf a xs) ∨ (b = false ∧ SqT K Hf a xs)) := by
  obtain ⟨a, xs, q1, q2, q3⟩ := h.items (Evl.Ex.refl _) e
  refine ⟨a, xs, q1, q3, ?_⟩
  cases b with
  | true => exact .inl ⟨rfl, .inl (by simpa using q2)⟩
  | false => exact .inr ⟨rfl, by simpa using q2⟩
theorem di_seq (ha : PE X a (tM X.K ma)) : PI X tg a (tI X.K (mSeqI ma)) := PI.imp (pi_seq ha) fun σ H Q h => by
  obtain ⟨B, Hf, Γ, ps, r, Γ', R, e, k⟩ := h
  obtain ⟨⟨s1, Γ1⟩, e1, e⟩ := bindE e
  obtain ⟨⟨d, Γ2⟩, e2, e⟩ := bindE e
  obtain ⟨⟨bb, l⟩, e3, e⟩ := bindE e
  cases e
  refine ⟨B, Hf, Γ, ps, s1, Γ1, R, e1, fun x fp1 Hf1 H1 R1 => ?_⟩
  obtain ⟨Hf2, _, f2, R2⟩ := R1.settle e2
  obtain ⟨p, xs, rfl, dx, q⟩ := Den.seqF (R2.pend _ List.mem_cons_self).2 e3
  refine ⟨p, rfl, ?_⟩
  rcases q with ⟨_, q⟩ | ⟨_, q⟩
  · exact .inl ⟨⟨xs, Evl.ex_l R2.sub q⟩, k _ Hf2 H1 ⟨f2, R2.pop⟩ (iterL q dx)⟩
  · exact .inr ⟨⟨xs, Evl.ex_t R2.sub q⟩, k _ Hf2 H1 ⟨f2, R2.pop⟩ (iterT q dx)⟩
/-! ranges -/
def rngD (lo hi : Int) : List Dat := (List.range (hi - lo).toNat).map fun (i : Nat) => .int (lo + i)
def mRange1 (m : M) : MI := fun Γ => (m Γ).bind fun p => match p.1 with
  | .d (.int n) => if -(2 ^ 62) ≤ n ∧ n < 2 ^ 62 then some (rngD 0 n, p.2) else none
  | _ => none
theorem iterR {Hf : Hp} {lo hi : Int} : IterOf K Hf (Itr lo (hi - lo).toNat) (rngD lo hi) := by
  intro Hf2 H2 e1 e2 i
  refine ⟨fun z hz => ?_, fun hl => ?_⟩
  · unfold rngD at hz
    rw [List.getElem?_map, Option.map_eq_some_iff] at hz
    obtain ⟨j, hj, rfl⟩ := hz
    obtain ⟨hl, rfl⟩ : i < (hi - lo).toNat ∧ i = j := by
      obtain ⟨h1, h2⟩ := List.getElem?_eq_some_iff.mp hj
      rw [List.length_range] at h1
      rw [List.getElem_range] at h2
      exact ⟨h1, h2⟩
    refine ⟨hl, fun x H3 hy => ?_⟩
    obtain ⟨rfl, rfl⟩ := hy
    exact .old (.int _)
  · show (hi - lo).toNat ≤ i
    rw [hl]
    simp [rngD]
theorem di_range1 {p : Pos} (ha : PE X a (tM X.K ma)) (hm : X.mg "range" = none) (hg : Gl X "range" := by rfl) (hs : starEach [a] X.env = [(false, eval a X.env)] := by rfl) : PI X tg (.Call (.Name "range" p) [a] [] pos) (tI X.K (mRange1 ma)) :=
  PI.imp (pi_range1 hg hm (pa_cons ha pa_nil hs) hs) fun σ H Q h => by
    obtain ⟨B, Hf, Γ, ps, r, Γ', R, e, k⟩ := h
    obtain ⟨⟨s1, Γ1⟩, e1, e⟩ := bindE e
    refine ⟨B, Hf, Γ, ps, s1, Γ1, R, e1, fun x fp1 Hf1 H1 ⟨f, R1⟩ => ?_⟩
    revert e
    cases s1 with
    | d z =>
      cases z with
      | int n =>
        intro e
        simp only at e
        split at e
        · rename_i hn
          cases e
          have q := (R1.pend _ List.mem_cons_self).2
          cases q
          have := k _ Hf1 H1 ⟨f, R1.pop⟩ (iterR (lo := 0) (hi := n))
          rw [Int.sub_zero] at this
          exact ⟨n, rfl, hn.1, hn.2, this⟩
        · cases e
      | _ => intro e; cases e
    | _ => intro e; cases e
def mRange2 (ma mb : M) : MI := fun Γ => (ma Γ).bind fun p => (mb p.2).bind fun q => match p.1, q.1 with
  | .d (.int n), .d (.int m) => if (-(2 ^ 62) ≤ n ∧ n < 2 ^ 62) ∧ -(2 ^ 62) ≤ m ∧ m < 2 ^ 62 then some (rngD n m, q.2) else none
  | _, _ => none
theorem di_range2 {p : Pos} (ha : PE X a (tM X.K ma)) (hb : PE X b (tM X.K mb)) (hm : X.mg "range" = none) (hg : Gl X "range" := by rfl) (hs : starEach [a, b] X.env = [(false, eval a X.env), (false, eval b X.env)] := by rfl) (hs2 : starEach [b] X.env = [(false, eval b X.env)] := by rfl) :
    PI X tg (.Call (.Name "range" p) [a, b] [] pos) (tI X.K (mRange2 ma mb)) :=
  PI.imp (pi_range2 hg hm (pa_cons ha (pa_cons hb pa_nil hs2) (by rw [hs, hs2])) hs hs2) fun σ H Q h => by
    obtain ⟨B, Hf, Γ, ps, r, Γ', R, e, k⟩ := h
    obtain ⟨⟨s1, Γ1⟩, e1, e⟩ := bindE e
    obtain ⟨⟨s2, Γ2⟩, e2, e⟩ := bindE e
    refine ⟨B, Hf, Γ, ps, s1, Γ1, R, e1, fun x fp1 Hf1 H1 R1 => ⟨B, Hf1, Γ1, _, s2, Γ2, R1, e2, fun y fp2 Hf2 H2 ⟨f, R2⟩ => ?_⟩⟩
    simp only at e
    split at e
    · rename_i n m _ _
      split at e
      · rename_i hn
        cases e
        have q := (R2.pend _ List.mem_cons_self).2
        have q2 := (R2.pop.pend _ List.mem_cons_self).2
        cases q
        cases q2
        exact ⟨n, m, rfl, ⟨hn.1.1, hn.1.2, hn.2.1, hn.2.2⟩, k _ Hf2 H2 ⟨f, R2.pop.pop⟩ iterR⟩
      · cases e
    · cases e
/-! enumerate, zip -/
def enumL (l : List Dat) : List Dat := l.zipIdx.map fun p => .tuple [.int p.2, p.1]
theorem enumL_get {l : List Dat} {i : Nat} {z : Dat} (h : (enumL l)[i]? = some z) : ∃ d, l[i]? = some d ∧ z = .tuple [.int i, d] := by
  unfold enumL at h
  rw [List.getElem?_map, Option.map_eq_some_iff] at h
  obtain ⟨⟨d, j⟩, h1, rfl⟩ := h
  rw [List.getElem?_zipIdx] at h1
  cases e : l[i]? with
  | none => rw [e] at h1; cases h1
  | some d' =>
    rw [e] at h1
    simp only [Option.map_some, Option.some.injEq, Prod.mk.injEq] at h1
    obtain ⟨rfl, rfl⟩ := h1
    exact ⟨_, rfl, by rw [Nat.zero_add]⟩
theorem enumL_len (l : List Dat) : (enumL l).length = l.length := by simp [enumL]
def mEnum (m : M) : MI := fun Γ => (m Γ).bind fun p => (settle p.2 p.1).bind fun q => (seqOf q.1).bind fun l => some (enumL l.2, q.2)
def iEnumA (K : PySem.W.Frag) (ta : TA) : TI := fun σ H R => ta σ H fun vs H1 => ∃ a xs, vs = [.ref a] ∧ ((SqL K H1 a xs ∧ R (Ite K a) H1) ∨ (SqT K H1 a xs ∧ R (IteT K a) H1))
theorem pi_enumA {e : Expr} {ta : TA} {p pos tpos : Pos} {elts : List Expr} {kk : Nat} (hg : Gl X "enumerate") (hm : X.mg "enumerate" = none) (ha : PA X [e] ta) (hs : starEach [e] X.env = [(false, eval e X.env)] := by rfl) :
    PI X (.Tuple elts kk tpos) (.Call (.Name "enumerate" p) [e] [] pos) (iEnumA X.K ta) := by
  refine ⟨fun pins s σ H R I h => ?_⟩
  refine PyProof.Rows.Call_ (ld_blt I hg hm PyProof.Rows.boot_enumerate (PyProof.Rows.callWith_type1 (thn (ha.run pos pins s σ H _ I h) fun us s1 ⟨vs, H1, I1, r1, q1⟩ => ?_) hs rfl))
  obtain ⟨a, xs, ex, q⟩ := q1
  subst ex
  cases r1 with
  | cons r rr =>
    cases rr
    cases r
    have f1 : ∀ b, b ∈ [s1.heap.objs.size + 1, s1.heap.objs.size] → FpOk X pins H1 b := fun b hb => by
      have e' : b = s1.heap.objs.size + 1 ∨ b = s1.heap.objs.size := by simpa using hb
      have hle : s1.heap.objs.size ≤ b := by
        rcases e' with z | z
        · rw [z]; exact Nat.le_add_right _ _
        · rw [z]; exact Nat.le_refl _
      exact I1.fpOk hle (I1.hok.fresh hle)
    rcases q with ⟨hq, q⟩ | ⟨hq, q⟩
    · obtain ⟨its, rv, p', hz⟩ := I1.list hq
      refine call_enumerate_list p'.isList fun h' he hit hsz hk => wpAny_pyIter_enum he ?_
      have I2 : Inv X pins σ H1 { s1 with heap := h' } := I1.kept (t' := s1.toks) hk
      exact ⟨s1.heap.objs.size + 1, [s1.heap.objs.size + 1, s1.heap.objs.size], _, _, H1, rfl, I2, turn_enum a (s1.heap.objs.size + 1) s1.heap.objs.size, ⟨⟨.none, he⟩, hit, Nat.succ_ne_self _⟩, f1, q⟩
    · obtain ⟨its, rv, p', hz⟩ := I1.tuple hq
      refine dl_call_enumerate (begins_tuple a its.toArray) (show s1.heap.IsTuple a its.toArray from p') fun h' he hit hsz hk => wpAny_pyIter_enum he ?_
      have I2 : Inv X pins σ H1 { s1 with heap := h' } := I1.kept (t' := s1.toks) hk
      have hal : a < s1.heap.objs.size := p'.lt
      exact ⟨s1.heap.objs.size + 1, [s1.heap.objs.size + 1, s1.heap.objs.size], _, _, H1, rfl, I2, turn_enumT a (s1.heap.objs.size + 1) s1.heap.objs.size (Nat.ne_of_lt hal) (Nat.ne_of_lt (Nat.lt_succ_of_lt hal)), ⟨⟨.none, he⟩, ⟨_, hit, rfl, rfl⟩, Nat.succ_ne_self _⟩, f1, q⟩
theorem di_enum {p tpos : Pos} {elts : List Expr} {kk : Nat} (ha : PE X a (tM X.K ma)) (hm : X.mg "enumerate" = none) (hg : Gl X "enumerate" := by rfl) (hs : starEach [a] X.env = [(false, eval a X.env)] := by rfl) :
    PI X (.Tuple elts kk tpos) (.Call (.Name "enumerate" p) [a] [] pos) (tI X.K (mEnum ma)) := PI.imp (pi_enumA hg hm (pa_cons ha pa_nil hs) hs) fun σ H Q h => by
  obtain ⟨B, Hf, Γ, ps, r, Γ', R, e, k⟩ := h
  obtain ⟨⟨s1, Γ1⟩, e1, e⟩ := bindE e
  obtain ⟨⟨d, Γ2⟩, e2, e⟩ := bindE e
  obtain ⟨⟨bb, l⟩, e3, e⟩ := bindE e
  cases e
  refine ⟨B, Hf, Γ, ps, s1, Γ1, R, e1, fun x fp1 Hf1 H1 R1 => ?_⟩
  obtain ⟨Hf2, _, f2, R2⟩ := R1.settle e2
  obtain ⟨p, xs, rfl, dx, q⟩ := Den.seqF (R2.pend _ List.mem_cons_self).2 e3
  refine ⟨p, xs, rfl, ?_⟩
  rcases q with ⟨_, q⟩ | ⟨_, q⟩
  · refine .inl ⟨Evl.ex_l R2.sub q, k _ Hf2 H1 ⟨f2, R2.pop⟩ fun Hf3 H3 x1 x2 i => ?_⟩
    have h2 : SqL X.K H3 p xs := Evl.ex_l (x1.trans x2) q
    refine ⟨fun z hz => ?_, fun hl => ⟨xs, h2, by rw [dx.length, hl, enumL_len]; exact Nat.le_refl _⟩⟩
    obtain ⟨d', hd', rfl⟩ := enumL_get hz
    obtain ⟨y, hy, dy⟩ := dx.getD hd'
    refine ⟨⟨xs, y, h2, hy⟩, fun u H4 hu => ?_⟩
    obtain ⟨T, w, rfl, hT, rfl, hw⟩ := hu
    have := hw xs h2
    rw [hy] at this
    cases this
    exact .new hT (.cons (.int _) (.cons (dy.mono x1) .nil))
  · refine .inr ⟨Evl.ex_t R2.sub q, k _ Hf2 H1 ⟨f2, R2.pop⟩ fun Hf3 H3 x1 x2 i => ?_⟩
    have h2 : SqT X.K H3 p xs := Evl.ex_t (x1.trans x2) q
    refine ⟨fun z hz => ?_, fun hl => ⟨xs, h2, by rw [dx.length, hl, enumL_len]⟩⟩
    obtain ⟨d', hd', rfl⟩ := enumL_get hz
    obtain ⟨y, hy, dy⟩ := dx.getD hd'
    refine ⟨⟨xs, y, h2, hy⟩, fun u H4 hu => ?_⟩
    obtain ⟨T, w, rfl, hT, rfl, hw⟩ := hu
    have := hw xs h2
    rw [hy] at this
    cases this
    exact .new hT (.cons (.int _) (.cons (dy.mono x1) .nil))
def zipL (l1 l2 : List Dat) : List Dat := (l1.zip l2).map fun p => .tuple [p.1, p.2]
theorem zipL_get {l1 l2 : List Dat} {i : Nat} {z : Dat} (h : (zipL l1 l2)[i]? = some z) : ∃ d1 d2, l1[i]? = some d1 ∧ l2[i]? = some d2 ∧ z = .tuple [d1, d2] := by
  unfold zipL at h
  rw [List.getElem?_map, Option.map_eq_some_iff] at h
  obtain ⟨⟨d1, d2⟩, h1, rfl⟩ := h
  rw [List.getElem?_zip_eq_some] at h1
  exact ⟨d1, d2, h1.1, h1.2, rfl⟩
theorem zipL_len (l1 l2 : List Dat) : (zipL l1 l2).length = min l1.length l2.length := by simp [zipL]
def mZip (ma mb : M) : MI := fun Γ => (ma Γ).bind fun p => (settle p.2 p.1).bind fun p' => (mb p'.2).bind fun q => (settle q.2 q.1).bind fun q' => (seqOf p'.1).bind fun l1 => (seqOf q'.1).bind fun l2 =>
  if l1.1 = l2.1 then some (zipL l1.2 l2.2, q'.2) else none
theorem di_zip {p tpos : Pos} {elts : List Expr} {kk : Nat} (ha : PE X a (tM X.K ma)) (hb : PE X b (tM X.K mb)) (hm : X.mg "zip" = none) (hg : Gl X "zip" := by rfl) (hs : starEach [a, b] X.env = (false, eval a X.env) :: starEach [b] X.env := by rfl)
    (hs2 : starEach [b] X.env = (false, eval b X.env) :: starEach [] X.env := by rfl) (hpl : (backTo pos (starEach [b] X.env)).any (·.1) = false := by rfl) :
    PI X (.Tuple elts kk tpos) (.Call (.Name "zip" p) [a, b] [] pos) (tI X.K (mZip ma mb)) := PI.imp (RZ.pi_zipA hg hm (pa_cons ha (pa_cons hb pa_nil hs2) hs) hs hpl) fun σ H Q h => by
  obtain ⟨B, Hf, Γ, ps, r, Γ', R, e, k⟩ := h
  obtain ⟨⟨s1, Γ1⟩, e1, e⟩ := bindE e
  obtain ⟨⟨d1, Γ2⟩, e2, e⟩ := bindE e
  obtain ⟨⟨s2, Γ3⟩, e3, e⟩ := bindE e
  obtain ⟨⟨d2, Γ4⟩, e4, e⟩ := bindE e
  obtain ⟨⟨b1, l1⟩, e5, e⟩ := bindE e
  obtain ⟨⟨b2, l2⟩, e6, e⟩ := bindE e
  simp only at e
  split at e
  · rename_i hbb
    subst hbb
    cases e
    refine ⟨B, Hf, Γ, ps, s1, Γ1, R, e1, fun x fp1 Hf1 H1 R1 => ?_⟩
    obtain ⟨Hf2, _, R2⟩ := R1.settle e2
    refine ⟨B, Hf2, Γ2, _, s2, Γ3, R2, e3, fun y fp2 Hf3 H3 R3 => ?_⟩
    obtain ⟨Hf4, _, f4, R4⟩ := R3.settle e4
    obtain ⟨q, ys, rfl, dy, qy⟩ := Den.seqF (R4.pend _ List.mem_cons_self).2 e6
    obtain ⟨p, xs, rfl, dx, qx⟩ := Den.seqF (R4.pop.pend _ List.mem_cons_self).2 e5
    refine ⟨p, q, xs, ys, rfl, ?_⟩
    rcases qx with ⟨rfl, qx⟩ | ⟨rfl, qx⟩
    · rcases qy with ⟨_, qy⟩ | ⟨z, _⟩
      · refine .inl ⟨Evl.ex_l R4.sub qx, Evl.ex_l R4.sub qy, k _ Hf4 H3 ⟨f4, R4.pop.pop⟩ fun Hf5 H5 x1 x2 i => ?_⟩
        have h1 : SqL X.K H5 p xs := Evl.ex_l (x1.trans x2) qx
        have h2 : SqL X.K H5 q ys := Evl.ex_l (x1.trans x2) qy
        refine ⟨fun z hz => ?_, fun hl => ⟨xs, ys, h1, h2, by rw [dx.length, dy.length, hl, zipL_len]; omega⟩⟩
        obtain ⟨u1, u2, hu1, hu2, rfl⟩ := zipL_get hz
        obtain ⟨v1, hv1, w1⟩ := dx.getD hu1
        obtain ⟨v2, hv2, w2⟩ := dy.getD hu2
        refine ⟨⟨xs, ys, v1, v2, h1, h2, hv1, hv2⟩, fun u H6 hu => ?_⟩
        obtain ⟨T, c1, c2, rfl, hT, rfl, hc1, hc2⟩ := hu
        have g1 := hc1 xs h1
        have g2 := hc2 ys h2
        rw [hv1] at g1
        rw [hv2] at g2
        cases g1
        cases g2
        exact .new hT (.cons (w1.mono x1) (.cons (w2.mono x1) .nil))
      · cases z
    · rcases qy with ⟨z, _⟩ | ⟨_, qy⟩
      · cases z
      · refine .inr ⟨Evl.ex_t R4.sub qx, Evl.ex_t R4.sub qy, k _ Hf4 H3 ⟨f4, R4.pop.pop⟩ fun Hf5 H5 x1 x2 i => ?_⟩
        have h1 : SqT X.K H5 p xs := Evl.ex_t (x1.trans x2) qx
        have h2 : SqT X.K H5 q ys := Evl.ex_t (x1.trans x2) qy
        refine ⟨fun z hz => ?_, fun hl => ⟨xs, ys, h1, h2, by rw [dx.length, dy.length, hl, zipL_len]; omega⟩⟩
        obtain ⟨u1, u2, hu1, hu2, rfl⟩ := zipL_get hz
        obtain ⟨v1, hv1, w1⟩ := dx.getD hu1
        obtain ⟨v2, hv2, w2⟩ := dy.getD hu2
        refine ⟨⟨xs, ys, v1, v2, h1, h2, hv1, hv2⟩, fun u H6 hu => ?_⟩
        obtain ⟨T, c1, c2, rfl, hT, rfl, hc1, hc2⟩ := hu
        have g1 := hc1 xs h1
        have g2 := hc2 ys h2
        rw [hv1] at g1
        rw [hv2] at g2
        cases g1
        cases g2
        exact .new hT (.cons (w1.mono x1) (.cons (w2.mono x1) .nil))
  · cases e
end
end DL

set_option Elab.async false
set_option linter.all false
set_option maxRecDepth 100000
set_option maxHeartbeats 4000000
namespace DL
open PySem L2
variable [TabsC]
section
variable {X : Cx} {K : PySem.W.Frag} {a b c e tg iter elt : Expr} {ma mb mc me : M} {mt mu : MT} {mi : MI} {pos : Pos} {k : Nat} {es : List Expr} {W W2 : List Nat} {g : MG} {gs : MGs} {st : Stmt} {rest body : List Stmt} {m m1 m2 : MS}

/-! ### for -/
def forL (g : MG) (mb : MS) : List Dat → MS
  | [], Γ => some (.nx, Γ)
  | x :: xs, Γ => (g (.d x) Γ).bind fun Γ1 => (mb Γ1).bind fun p => match p.1 with
    | .nx => forL g mb xs p.2
    | .ct => forL g mb xs p.2
    | .bk => some (.nx, p.2)
    | .ret r => some (.ret r, p.2)
def mFor (mi : MI) (g : MG) (mb : MS) : MS := fun Γ => (mi Γ).bind fun p => forL g mb p.1 p.2
theorem ds_for (hp : PassesOwn (model X.prog X.w) X.A X.env X.xe) (hc : X.calm = true) (hi : PI X tg iter (tI X.K mi)) (hg : PG X tg (tG X.K W g)) (hb : PSs X body (tS X.K W2 m)) (hs : ∀ x, foldedSetIterable iter X.env x = pure x := by intro _; rfl) :
    PS X (.For tg iter body [] pos) (tS X.K (W ++ W2) (mFor mi g m)) := PS.imp (ps_for hp hc hi hg hb hs) fun D σ H h => by
  obtain ⟨B, Hf, Γ, fl, Γ', R, e, kk⟩ := h
  obtain ⟨⟨items, Γ1⟩, e1, e⟩ := bindE e
  simp only at e
  refine ⟨B, Hf, Γ, [], items, Γ1, R, e1, fun J Hf1 H1 ⟨f1, R1⟩ hJ => ?_⟩
  -- the loop, over a new base
  refine ⟨fun i j σ' H' => j = items.length - i ∧ i ≤ items.length ∧ Stay (W ++ W2) σ σ' ∧ ∃ Hf' Γi, Reach X.K ⟨Hf1, H1, fun a => ∃ i, a ∈ f1 i⟩ Hf' H' σ' Γi [] ∧ forL g m (items.drop i) Γi = some (fl, Γ'),
    ⟨_, rfl, Nat.zero_le _, Stay.refl _ _, Hf1, Γ1, ⟨f1, R1.base⟩, e⟩, ?_⟩
  rintro i j σ2 H2 ⟨rfl, hil, s2, Hf2, Γ2, ⟨f2, R2⟩, e2⟩
  by_cases hlt : i < items.length
  · have hgo := hJ Hf2 H2 R2.ex R2.sub i
    have hx : items[i]? = some items[i] := by simp [hlt]
    obtain ⟨go, yl⟩ := hgo.1 _ hx
    rw [List.drop_eq_getElem_cons hlt] at e2
    obtain ⟨Γ3, e3, e2⟩ := bindE e2
    obtain ⟨⟨f4, Γ4⟩, e4, e2⟩ := bindE e2
    refine .inr ⟨go, fun σ' H' => Stay (W ++ W2) σ σ' ∧ ∃ Hf' Γi, Reach X.K ⟨Hf1, H1, fun a => ∃ i, a ∈ f1 i⟩ Hf' H' σ' Γi [] ∧ forL g m (items.drop (i + 1)) Γi = some (fl, Γ'), fun σ' H' ⟨q1, q2⟩ => ⟨_, by omega, rfl, hlt, q1, q2⟩, fun x H' hy => ?_⟩
    obtain ⟨Hf3, _, R3⟩ := yld_ok ⟨f2, R2⟩ (yl x H' hy)
    refine ⟨_, Hf3, Γ2, [], _, [], Γ3, R3, NoBor.nil, e3, fun σ3 Hf4 l3 s3 _ R4 => ?_⟩
    have st3 : Stay (W ++ W2) σ σ3 := s2.trans (s3.mono fun i hi => List.mem_append_left _ hi)
    have fin : ∀ {σ' Hf' H' Γ'' ps'}, Reach X.K ⟨Hf1, H1, fun a => ∃ i, a ∈ f1 i⟩ Hf' H' σ' Γ'' ps' → Reach X.K B Hf' H' σ' Γ'' ps' := fun ⟨f', R'⟩ => ⟨f', by have := R1.trans R' (.inl rfl); rwa [List.append_nil] at this⟩
    refine ⟨_, Hf4, Γ3, f4, Γ4, R4, e4, ?_⟩
    have st4 : ∀ {σ'}, Stay W2 σ3 σ' → Stay (W ++ W2) σ σ' := fun s => st3.trans (s.mono fun i hi => List.mem_append_right _ hi)
    cases f4 with
    | nx => exact fun σ' Hf' H' s R' => ⟨st4 s, Hf', Γ4, R', e2⟩
    | ct => exact fun σ' Hf' H' s R' => ⟨st4 s, Hf', Γ4, R', e2⟩
    | bk => cases e2; exact fun σ' Hf' H' s R' => kk σ' Hf' H' (st4 s) (fin R')
    | ret r => cases e2; exact fun σ' v fp Hf' H' s R' => kk σ' v fp Hf' H' (st4 s) (fin R')
  · have hie : i = items.length := by omega
    have hgo := hJ Hf2 H2 R2.ex R2.sub i
    refine .inl ⟨hgo.2 hie, ?_⟩
    rw [hie, List.drop_length] at e2
    cases e2
    have := R1.trans R2 (.inl rfl)
    rw [List.append_nil] at this
    exact kk σ2 Hf2 H2 s2 ⟨f2, this⟩

/-! ### comprehensions -/
def wipeE (Γ : Env) : List Nat → Env
  | [] => Γ
  | v :: vs => (wipeE Γ vs).set v .no
def putE (Γ Γ0 : Env) : List Nat → Env
  | [] => Γ
  | v :: vs => match Γ0[v]? with
    | some g => (putE Γ Γ0 vs).set v g
    | none => putE Γ Γ0 vs
def plainS : Slot → Bool
  | .no => true
  | .d _ => true
  | .fn _ => true
  | _ => false
/-- nothing is owned at these slots -/
def plainAt (Γ : Env) (vs : List Nat) : Bool := vs.all fun v => match Γ[v]? with
  | some s => plainS s
  | none => false
def lcL (g : MG) (mt : MT) (me : M) (vs : List Nat) : List Dat → List Dat → Env → Option (List Dat × Env)
  | [], acc, Γ => some (acc, Γ)
  | x :: xs, acc, Γ => (g (.d x) Γ).bind fun Γ1 => (mt Γ1).bind fun p => if p.1 then
      (me p.2).bind fun q => (settle q.2 q.1).bind fun s => if acc.length < lim then lcL g mt me vs xs (acc ++ [s.1]) (wipeE s.2 vs) else none
    else lcL g mt me vs xs acc (wipeE p.2 vs)
def mLc (mi : MI) (g : MG) (mt : MT) (me : M) (vs : List Nat) : M := fun Γ => (mi Γ).bind fun p => if plainAt p.2 vs then
    (lcL g mt me vs p.1 [] (wipeE p.2 vs)).bind fun q => some (.own (.lst q.1), putE q.2 p.2 vs) else none
theorem wipeE_len (Γ : Env) : ∀ vs, (wipeE Γ vs).length = Γ.length
  | [] => rfl
  | v :: vs => by unfold wipeE; rw [List.length_set, wipeE_len Γ vs]
theorem putE_len (Γ Γ0 : Env) : ∀ vs, (putE Γ Γ0 vs).length = Γ.length
  | [] => rfl
  | v :: vs => by
    unfold putE
    split
    · rw [List.length_set, putE_len Γ Γ0 vs]
    · exact putE_len Γ Γ0 vs
theorem wipeE_get {Γ : Env} {i : Nat} {s : Slot} : ∀ {vs : List Nat}, (wipeE Γ vs)[i]? = some s → (i ∉ vs ∧ Γ[i]? = some s) ∨ (i ∈ vs ∧ s = .no)
  | [], h => .inl ⟨by simp, h⟩
  | v :: vs, h => by
    unfold wipeE at h
    by_cases hv : v = i
    · subst hv
      have hl : v < (wipeE Γ vs).length := by
        have := (List.getElem?_eq_some_iff.mp h).1
        rwa [List.length_set] at this
      rw [List.getElem?_set_self hl] at h
      cases h
      exact .inr ⟨by simp, rfl⟩
    · rw [List.getElem?_set_ne hv] at h
      rcases wipeE_get h with ⟨q1, q2⟩ | ⟨q1, q2⟩
      · exact .inl ⟨by simp only [List.mem_cons, not_or]; exact ⟨fun z => hv z.symm, q1⟩, q2⟩
      · exact .inr ⟨List.mem_cons_of_mem _ q1, q2⟩
theorem putE_get {Γ Γ0 : Env} {i : Nat} {s : Slot} : ∀ {vs : List Nat}, (putE Γ Γ0 vs)[i]? = some s → ((i ∉ vs ∨ Γ0[i]? = none) ∧ Γ[i]? = some s) ∨ (i ∈ vs ∧ Γ0[i]? = some s)
  | [], h => .inl ⟨.inl (by simp), h⟩
  | v :: vs, h => by
    unfold putE at h
    split at h
    · rename_i g hg
      by_cases hv : v = i
      · subst hv
        have hl : v < (putE Γ Γ0 vs).length := by
          have := (List.getElem?_eq_some_iff.mp h).1
          rwa [List.length_set] at this
        rw [List.getElem?_set_self hl] at h
        cases h
        exact .inr ⟨by simp, hg⟩
      · rw [List.getElem?_set_ne hv] at h
        rcases putE_get h with ⟨q1, q2⟩ | ⟨q1, q2⟩
        · refine .inl ⟨?_, q2⟩
          rcases q1 with q1 | q1
          · exact .inl (by simp only [List.mem_cons, not_or]; exact ⟨fun z => hv z.symm, q1⟩)
          · exact .inr q1
        · exact .inr ⟨List.mem_cons_of_mem _ q1, q2⟩
    · rename_i hg
      rcases putE_get h with ⟨q1, q2⟩ | ⟨q1, q2⟩
      · refine .inl ⟨?_, q2⟩
        rcases q1 with q1 | q1
        · by_cases hv : v = i
          · subst hv; exact .inr hg
          · exact .inl (by simp only [List.mem_cons, not_or]; exact ⟨fun z => hv z.symm, q1⟩)
        · exact .inr q1
      · exact .inr ⟨List.mem_cons_of_mem _ q1, q2⟩
theorem wipe_get {σ : St} {i : Nat} : ∀ {vs : List Nat}, i ∉ vs → (wipe σ vs)[i]? = σ[i]? := L2.wipe_out
theorem wipe_stay {σ σ' : St} : ∀ {vs : List Nat}, σ'.length = σ.length → Stay vs σ σ' → wipe σ' vs = wipe σ vs := by
  intro vs hl hs
  refine List.ext_getElem? fun i => ?_
  by_cases hi : i ∈ vs
  · -- both none there (or both out of range)
    have key : ∀ (τ : St) (us : List Nat), i ∈ us → (wipe τ us)[i]? = if i < τ.length then some none else none := by
      intro τ us
      induction us with
      | nil => intro h; cases h
      | cons u us ih =>
        intro h
        unfold wipe
        by_cases hu : u = i
        · subst hu
          rw [List.getElem?_set]
          simp [wipe_length]
        · rw [List.getElem?_set_ne hu]
          exact ih (by simpa [Ne.symm hu] using h)
    rw [key _ _ hi, key _ _ hi, hl]
  · rw [wipe_get hi, wipe_get hi]
    exact hs i hi
/-- a block's slots are forgotten ahead of its turns -/
theorem ReachF.wiped {B : Base} {Hf H : Hp} {σ : St} {Γ : Env} {f : Nat → List Addr} {ps : List Pend} (R : ReachF K B Hf H σ Γ f ps) (nb : NoBor ps) (vs : List Nat) : Reach K B Hf H (wipe σ vs) (wipeE Γ vs) ps := by
  refine R.remap (wipe_length _ _) (wipeE_len _ _) nb fun i s h => ?_
  rcases wipeE_get h with ⟨q1, q2⟩ | ⟨q1, rfl⟩
  · exact .inl ⟨q2, wipe_get q1⟩
  · exact .inr ⟨rfl, by intro o z; cases z⟩
theorem lc_imp {vs : List Nat} {σ : St} {H : Hp} {Q : VK} (h : tM K (mLc mi g mt me vs) σ H Q) : tLc (tI K mi) (tG K vs g) (tT K mt) (tM K me) vs σ H Q := by
  obtain ⟨B, Hf, Γ, ps, r, Γ', R, e, kk⟩ := h
  obtain ⟨⟨items, Γ1⟩, e1, e⟩ := bindE e
  simp only at e
  split at e
  · rename_i hpl
    obtain ⟨⟨res, Γ2⟩, e2, e⟩ := bindE e
    cases e
    refine ⟨B, Hf, Γ, ps, items, Γ1, R, e1, fun J Hf1 H1 ⟨f1, R1⟩ hJ => ?_⟩
    intro D hD
    have RB := R1.base
    obtain ⟨fw, RW⟩ := (RB.newL (ds := []) (xs := []) hD .nil).wiped (by intro p hp j z; simp only [List.mem_singleton] at hp; subst hp; cases z) vs
    refine ⟨fun i j H' => j = items.length - i ∧ i ≤ items.length ∧ ∃ Hf' Γi acc, Reach K ⟨Hf1, H1, fun a => ∃ i, a ∈ f1 i⟩ Hf' H' (wipe σ vs) Γi [⟨.ref D, .own (.lst acc), [D]⟩] ∧ lcL g mt me vs (items.drop i) acc Γi = some (res, Γ2),
      ⟨_, rfl, Nat.zero_le _, Hf1, _, [], ⟨fw, RW⟩, e2⟩, ?_⟩
    rintro i j H2 ⟨rfl, hil, Hf2, Γi, acc, ⟨f2, R2⟩, e3⟩
    have nbD : ∀ acc', NoBor [⟨.ref D, .own (.lst acc'), [D]⟩] := fun acc' p hp j z => by simp only [List.mem_singleton] at hp; subst hp; cases z
    by_cases hlt : i < items.length
    · have hx : items[i]? = some items[i] := by simp [hlt]
      obtain ⟨go, yl⟩ := (hJ Hf2 H2 R2.ex R2.sub i).1 _ hx
      rw [List.drop_eq_getElem_cons hlt] at e3
      obtain ⟨Γ3, e4, e3⟩ := bindE e3
      obtain ⟨⟨b5, Γ5⟩, e5, e3⟩ := bindE e3
      refine .inr ⟨go, fun H' => ∃ Hf' Γi acc, Reach K ⟨Hf1, H1, fun a => ∃ i, a ∈ f1 i⟩ Hf' H' (wipe σ vs) Γi [⟨.ref D, .own (.lst acc), [D]⟩] ∧ lcL g mt me vs (items.drop (i + 1)) acc Γi = some (res, Γ2), fun H' q => ⟨_, by omega, rfl, hlt, q⟩, fun x H' hy => ?_⟩
      obtain ⟨Hf3, _, R3⟩ := yld_ok ⟨f2, R2⟩ (yl x H' hy)
      refine ⟨_, Hf3, Γi, _, _, [], Γ3, R3, nbD _, e4, fun σ3 Hf4 l3 s3 _ R4 => ⟨?_, ?_⟩⟩
      · rw [wipe_stay l3 s3]
        exact wipe_stay (by rw [wipe_length]) fun j hj => wipe_get hj
      · have ew : wipe σ3 vs = wipe σ vs := by
          rw [wipe_stay l3 s3]
          exact wipe_stay (by rw [wipe_length]) fun j hj => wipe_get hj
        refine ⟨_, Hf4, Γ3, _, b5, Γ5, R4, e5, fun Hf5 H5 R5 => ?_⟩
        cases b5 with
        | false =>
          simp only [Bool.false_eq_true, if_false] at e3 ⊢
          obtain ⟨f5, R5⟩ := R5
          have := R5.wiped (nbD _) vs
          rw [ew] at this
          exact ⟨Hf5, _, acc, this, e3⟩
        | true =>
          simp only [if_true] at e3 ⊢
          obtain ⟨⟨s6, Γ6⟩, e6, e3⟩ := bindE e3
          obtain ⟨⟨d7, Γ7⟩, e7, e3⟩ := bindE e3
          simp only at e3
          split at e3
          · rename_i hal
            refine ⟨_, Hf5, Γ5, _, s6, Γ6, R5, e6, fun y fp H6f H6 R6 => ?_⟩
            obtain ⟨Hf7, _, f7, R7⟩ := R6.settle e7
            have dy := (R7.pend _ List.mem_cons_self).2
            have R8 := R7.pop
            obtain ⟨a, ea, efp, hfD, accV, hDa, dacc⟩ : ∃ a, V.ref D = .ref a ∧ [D] = [a] ∧ Hf7 a = none ∧ ∃ xs, H6 a = some (.lst xs) ∧ Dens K Hf7 xs acc := (R8.pend _ List.mem_cons_self)
            cases ea
            refine ⟨accV, hDa, by rw [dacc.length]; exact Nat.lt_of_lt_of_le hal lim_le, ?_⟩
            have R9 := R8.writeP (o' := .lst (acc ++ [d7])) (u := .lst (accV ++ [y])) ⟨rfl, hfD, _, upd_same, dacc.append (.cons dy .nil)⟩
            have := R9.wiped (nbD _) vs
            rw [ew] at this
            exact ⟨Hf7, _, _, this, e3⟩
          · cases e3
    · have hie : i = items.length := by omega
      refine .inl ⟨(hJ Hf2 H2 R2.ex R2.sub i).2 hie, ?_⟩
      rw [hie, List.drop_length] at e3
      cases e3
      have hp : ∀ v ∈ vs, ∃ s, Γ1[v]? = some s ∧ plainS s = true := fun v hv => by
        have := List.all_eq_true.mp hpl v hv
        split at this
        · rename_i s hs; exact ⟨s, hs, this⟩
        · cases this
      obtain ⟨f3, R3⟩ := R2.remap (σ' := σ) (Γ' := putE Γ2 Γ1 vs) (by rw [wipe_length]) (putE_len _ _ _) (nbD _) fun i s h => by
        rcases putE_get h with ⟨q1, q2⟩ | ⟨q1, q2⟩
        · rcases q1 with q1 | q1
          · exact .inl ⟨q2, (wipe_get q1).symm⟩
          · by_cases hi : i ∈ vs
            · obtain ⟨s', hs', _⟩ := hp i hi
              rw [q1] at hs'
              cases hs'
            · exact .inl ⟨q2, (wipe_get hi).symm⟩
        · obtain ⟨s', hs', hpl'⟩ := hp i q1
          rw [q2] at hs'
          cases hs'
          have q := R1.slot i _ q2
          refine .inr ⟨?_, by intro o z; subst z; cases hpl'⟩
          cases s with
          | no => rfl
          | d x => obtain ⟨_, v, q3, q4⟩ := q; exact ⟨rfl, v, q3, q4.mono R2.ex⟩
          | fn a => exact ⟨rfl, q.2⟩
          | own o => cases hpl'
          | bor j => cases hpl'
      have R4 := R1.trans R3 (.inr rfl)
      exact kk (.ref D) [D] Hf2 H2 ⟨f3, R4⟩
  · cases e
/-- the tests of a block: none or one -/
def mYes : MT := fun Γ => some (true, Γ)
theorem dts_nil : PTs X [] (tT X.K mYes) := ⟨fun pins s σ H Q I h => pts_nil.run pins s σ H Q I (by
  obtain ⟨B, Hf, Γ, ps, r, Γ', R, e, kk⟩ := h
  cases e
  exact kk Hf H R)⟩
theorem dts_one (hc : PT X c (tT X.K mt)) : PTs X [c] (tT X.K mt) := pts_one hc
variable {ifs : List Expr} {scope : Scope} {own : List (Str × Nat)}
theorem d_lc (hc : Cok k X) (hi : PI X tg iter (tI X.K mi)) (ok : BlkOk X.N X.env.scope scope own)
    (hg : ∀ (s : Shared) (H : Hp) (C : Addr) (cl : List (Str × Addr)) (fp : List Addr), PG (X.blk s H scope (compEnvC scope cl C X.env) fp) tg (tG X.K (own.map (·.2)) g))
    (ht : ∀ (s : Shared) (H : Hp) (C : Addr) (cl : List (Str × Addr)) (fp : List Addr), PTs (X.blk s H scope (compEnvC scope cl C X.env) fp) ifs (tT X.K mt))
    (he : ∀ (s : Shared) (H : Hp) (C : Addr) (cl : List (Str × Addr)) (fp : List Addr), PE (X.blk s H scope (compEnvC scope cl C X.env) fp) elt (tM X.K me)) (hs : ∀ x, foldedSetIterable iter X.env x = pure x := by intro _; rfl) :
    PE X (.ListComp elt [⟨tg, iter, ifs, 0⟩] scope pos) (tM X.K (mLc mi g mt me (own.map (·.2)))) := PE.imp (pe_lc hc.calm hc.nd hi ok hg ht he hs) fun _ _ _ => lc_imp
/-- name = [..] on one line -/
theorem ds_setLc (i : Nat) {y : Str} {py spos : Pos} (hc : Cok k X) (hi : PI X tg iter (tI X.K mi)) (ok : BlkOk X.N X.env.scope scope own)
    (hg : ∀ (s : Shared) (H : Hp) (C : Addr) (cl : List (Str × Addr)) (fp : List Addr), PG (X.blk s H scope (compEnvC scope cl C X.env) fp) tg (tG X.K (own.map (·.2)) g))
    (ht : ∀ (s : Shared) (H : Hp) (C : Addr) (cl : List (Str × Addr)) (fp : List Addr), PTs (X.blk s H scope (compEnvC scope cl C X.env) fp) ifs (tT X.K mt))
    (he : ∀ (s : Shared) (H : Hp) (C : Addr) (cl : List (Str × Addr)) (fp : List Addr), PE (X.blk s H scope (compEnvC scope cl C X.env) fp) elt (tM X.K me))
    (hyl : X.env.scope.names.lookup y = some .local) (hsw : swapsWith (.ListComp elt [⟨tg, iter, ifs, 0⟩] scope pos) (some (.Name y py)) spos.line X.env = pure true) (hy : X.N[i]? = some y := by rfl) (hs : ∀ x, foldedSetIterable iter X.env x = pure x := by intro _; rfl) :
    PS X (.Assign [.Name y py] (.ListComp elt [⟨tg, iter, ifs, 0⟩] scope pos) spos) (tS X.K [i] (mSet (setS i) (mLc mi g mt me (own.map (·.2))))) := PS.imp (ps_setLc hc.calm hc.nd hy hyl hsw hi ok hg ht he hs) fun _ _ _ h => set_imp (fun _ _ _ q => lc_imp q) h

/-! ### calls of defs -/
def mA0 : MA := fun Γ => some ([], Γ)
def mAc (m : M) (mr : MA) : MA := fun Γ => (m Γ).bind fun p => (mr p.2).bind fun q => some (p.1 :: q.1, q.2)
/-- held values, the first of them deepest -/
inductive HeldL : List V → List Slot → List Pend → Prop
  | nil : HeldL [] [] []
  | cons {vs : List V} {ss : List Slot} {ps : List Pend} {v : V} {s : Slot} {fp : List Addr} : HeldL vs ss ps → HeldL (v :: vs) (s :: ss) (ps ++ [⟨v, s, fp⟩])
def tAr (K : PySem.W.Frag) (m : MA) : TA := fun σ H Q => ∃ B Hf Γ ps r Γ', Reach K B Hf H σ Γ ps ∧ m Γ = some (r, Γ') ∧ ∀ vs qs Hf' H', HeldL vs r qs → Reach K B Hf' H' σ Γ' (qs ++ ps) → Q vs H'
theorem dr_nil : PA X [] (tAr X.K mA0) := PA.imp pa_nil fun σ H Q h => by
  obtain ⟨B, Hf, Γ, ps, r, Γ', R, e, kk⟩ := h
  cases e
  exact kk [] [] Hf H .nil R
theorem dr_cons {mr : MA} (ha : PE X a (tM X.K ma)) (hr : PA X es (tAr X.K mr)) (hs : starEach (a :: es) X.env = (false, eval a X.env) :: starEach es X.env := by rfl) : PA X (a :: es) (tAr X.K (mAc ma mr)) := PA.imp (pa_cons ha hr hs) fun σ H Q h => by
  obtain ⟨B, Hf, Γ, ps, r, Γ', R, e, kk⟩ := h
  obtain ⟨⟨s1, Γ1⟩, e1, e⟩ := bindE e
  obtain ⟨⟨l, Γ2⟩, e2, e⟩ := bindE e
  cases e
  refine ⟨B, Hf, Γ, ps, s1, Γ1, R, e1, fun x fp Hf1 H1 R1 => ⟨B, Hf1, Γ1, _, l, Γ2, R1, e2, fun vs qs Hf2 H2 hd R2 => kk (x :: vs) (qs ++ [⟨x, s1, fp⟩]) Hf2 H2 (.cons hd) (by rw [List.append_assoc]; exact R2)⟩⟩
/-- what a def does, on slots: the arguments, the result and the arguments behind -/
abbrev FS := List Slot → Option (Slot × List Slot)
/-- an argument as the callee takes it -/
def argS (Γ : Env) : Slot → Option Slot
  | .d x => some (.d x)
  | .own o => some (.own o)
  | .fn a => some (.fn a)
  | .bor i => match Γ[i]? with
    | some (.own o) => some (.own o)
    | some (.d x) => some (.d x)
    | _ => none
  | .no => none
def argsS (Γ : Env) : List Slot → Option (List Slot)
  | [] => some []
  | s :: r => (argS Γ s).bind fun t => (argsS Γ r).bind fun q => some (t :: q)
/-- what was lent comes back -/
def backS (Γ : Env) : List Slot → List Slot → Env
  | .bor i :: r, t :: q => backS (Γ.set i t) r q
  | _ :: r, _ :: q => backS Γ r q
  | _, _ => Γ
def borIx : List Slot → List Nat
  | [] => []
  | .bor i :: r => i :: borIx r
  | _ :: r => borIx r
def mCall (n : Nat) (F : FS) (ma : MA) : M := fun Γ => (ma Γ).bind fun p => (argsS p.2 p.1).bind fun args => if p.1.length = n ∧ (borIx p.1).Nodup then (F args).bind fun q => if keepable q.1 = true ∧ q.2.length = args.length then some (q.1, backS p.2 p.1 q.2) else none else none
/-- a def's promise by what it does -/
def spF (K : PySem.W.Frag) (n : Nat) (F : FS) : Sp := fun vs H Q _ => vs.length = n ∧ ∃ Hf args f r args', ReachF K ⟨Hf, H, fun a => ∃ i, a ∈ f i⟩ Hf H (vs.map some) args f [] ∧ F args = some (r, args') ∧
  ∀ v fp Hf' H', Reach K ⟨Hf, H, fun a => ∃ i, a ∈ f i⟩ Hf' H' (vs.map some) args' [⟨v, r, fp⟩] → Q v H'
end
end DL

set_option Elab.async false
set_option linter.all false
set_option maxRecDepth 100000
set_option maxHeartbeats 4000000
namespace DL
open PySem L2
variable [TabsC]
theorem held_fps : ∀ {vs : List V} {ss : List Slot} {qs : List Pend}, HeldL vs ss qs → qs.Pairwise (fun p q => ∀ a, a ∈ p.fp → a ∉ q.fp) →
    ∃ fps : List (List Addr), vs.length = fps.length ∧ ss.length = fps.length ∧ (∀ (j : Nat) v s fp, vs[j]? = some v → ss[j]? = some s → fps[j]? = some fp → (⟨v, s, fp⟩ : Pend) ∈ qs) ∧
      (∀ (i j : Nat) fp fq a, fps[i]? = some fp → fps[j]? = some fq → a ∈ fp → a ∈ fq → i = j)
  | _, _, _, .nil, _ => ⟨[], rfl, rfl, by simp, by simp⟩
  | _, _, _, .cons (v := v) (s := s) (fp := fp0) (ps := qs) h, pw => by
    obtain ⟨p1, p2, p3⟩ := List.pairwise_append.mp pw
    obtain ⟨fps, l1, l2, h1, h2⟩ := held_fps h p1
    have inq : ∀ (j : Nat) fp, fps[j]? = some fp → ∃ p ∈ qs, p.fp = fp := fun j fp e => by
      have hj := (List.getElem?_eq_some_iff.mp e).1
      exact ⟨_, h1 j _ _ fp (List.getElem?_eq_getElem (by rw [l1]; exact hj)) (List.getElem?_eq_getElem (by rw [l2]; exact hj)) e, rfl⟩
    refine ⟨fp0 :: fps, by simp [l1], by simp [l2], fun j v' s' fp e1 e2 e3 => ?_, fun i j fp fq a e1 e2 ha hb => ?_⟩
    · cases j with
      | zero => simp at e1 e2 e3; subst e1 e2 e3; simp
      | succ j => exact List.mem_append_left _ (h1 j v' s' fp (by simpa using e1) (by simpa using e2) (by simpa using e3))
    · cases i with
      | zero =>
        cases j with
        | zero => rfl
        | succ j =>
          simp at e1 e2
          subst e1
          obtain ⟨p, hp, rfl⟩ := inq j fq e2
          exact absurd ha (p3 p hp ⟨v, s, fp0⟩ (List.mem_singleton.mpr rfl) a hb)
      | succ i =>
        cases j with
        | zero =>
          simp at e1 e2
          subst e2
          obtain ⟨p, hp, rfl⟩ := inq i fp e1
          exact absurd hb (p3 p hp ⟨v, s, fp0⟩ (List.mem_singleton.mpr rfl) a ha)
        | succ j => rw [h2 i j fp fq a (by simpa using e1) (by simpa using e2) ha hb]
theorem argsS_get {Γ : Env} : ∀ {ss args : List Slot}, argsS Γ ss = some args → args.length = ss.length ∧ ∀ (j : Nat) t, args[j]? = some t → ∃ s, ss[j]? = some s ∧ argS Γ s = some t
  | [], _, h => by cases h; exact ⟨rfl, by simp⟩
  | s :: r, _, h => by
    obtain ⟨t, e1, h⟩ := bindE h
    obtain ⟨q, e2, h⟩ := bindE h
    cases h
    obtain ⟨l, ih⟩ := argsS_get e2
    refine ⟨by simp [l], fun j t' e => ?_⟩
    cases j with
    | zero => simp at e; subst e; exact ⟨s, rfl, e1⟩
    | succ j =>
      obtain ⟨s', h1, h2⟩ := ih j t' (by simpa using e)
      exact ⟨s', by simpa using h1, h2⟩
theorem borIx_mem {i : Nat} : ∀ {ss : List Slot}, i ∈ borIx ss ↔ ∃ j : Nat, ss[j]? = some (.bor i)
  | [] => by simp [borIx]
  | s :: r => by
    have ih := borIx_mem (i := i) (ss := r)
    have step : (∃ j : Nat, (s :: r)[j]? = some (.bor i)) ↔ s = .bor i ∨ ∃ j : Nat, r[j]? = some (.bor i) := by
      constructor
      · rintro ⟨j, h⟩
        cases j with
        | zero => simp at h; exact .inl h
        | succ j => exact .inr ⟨j, by simpa using h⟩
      · rintro (h | ⟨j, h⟩)
        · exact ⟨0, by simp [h]⟩
        · exact ⟨j + 1, by simpa using h⟩
    rw [step]
    cases s with
    | bor k => simp only [borIx, List.mem_cons, ih, Slot.bor.injEq]; rw [eq_comm]
    | _ => simp [borIx, ih]
theorem borIx_inj {i : Nat} : ∀ {ss : List Slot} {j k : Nat}, (borIx ss).Nodup → ss[j]? = some (.bor i) → ss[k]? = some (.bor i) → j = k
  | [], j, k, _, h, _ => by simp at h
  | s :: r, 0, 0, _, _, _ => rfl
  | s :: r, 0, k + 1, n, h, h2 => by
    simp at h h2
    subst h
    exact absurd (borIx_mem.mpr ⟨k, h2⟩) (List.nodup_cons.mp n).1
  | s :: r, j + 1, 0, n, h, h2 => by
    simp at h h2
    subst h2
    exact absurd (borIx_mem.mpr ⟨j, h⟩) (List.nodup_cons.mp n).1
  | s :: r, j + 1, k + 1, n, h, h2 => by
    have n' : (borIx r).Nodup := by
      cases s with
      | bor q => exact (List.nodup_cons.mp n).2
      | _ => exact n
    exact congrArg (· + 1) (borIx_inj (ss := r) (j := j) (k := k) n' (by simpa using h) (by simpa using h2))
theorem backS_len : ∀ {ss as : List Slot} {Γ : Env}, (backS Γ ss as).length = Γ.length
  | [], _, _ => by simp [backS]
  | _ :: _, [], _ => by simp [backS]
  | s :: r, t :: q, Γ => by
    cases s with
    | bor i => rw [backS, backS_len, List.length_set]
    | _ => exact backS_len (ss := r) (as := q) (Γ := Γ)
theorem backS_out {i : Nat} : ∀ {ss as : List Slot} {Γ : Env}, i ∉ borIx ss → (backS Γ ss as)[i]? = Γ[i]?
  | [], _, _, _ => by simp [backS]
  | _ :: _, [], _, _ => by simp [backS]
  | s :: r, t :: q, Γ, h => by
    cases s with
    | bor k =>
      simp only [borIx, List.mem_cons, not_or] at h
      rw [backS, backS_out h.2, List.getElem?_set_ne (Ne.symm h.1)]
    | _ => exact backS_out (ss := r) (as := q) (Γ := Γ) h
theorem backS_in {i j : Nat} {t : Slot} : ∀ {ss as : List Slot} {Γ : Env}, (borIx ss).Nodup → ss[j]? = some (.bor i) → as[j]? = some t → i < Γ.length → (backS Γ ss as)[i]? = some t := by
  induction j with
  | zero =>
    intro ss as Γ n h1 h2 hl
    cases ss with
    | nil => simp at h1
    | cons s r =>
      cases as with
      | nil => simp at h2
      | cons t' q =>
        simp at h1 h2
        subst h1 h2
        have n' : (i :: borIx r).Nodup := n
        rw [backS, backS_out (i := i) (List.nodup_cons.mp n').1, List.getElem?_set_self hl]
  | succ j ih =>
    intro ss as Γ n h1 h2 hl
    cases ss with
    | nil => simp at h1
    | cons s r =>
      cases as with
      | nil => simp at h2
      | cons t' q =>
        simp at h1 h2
        cases s with
        | bor k => rw [backS]; exact ih (List.nodup_cons.mp n).2 h1 h2 (by rw [List.length_set]; exact hl)
        | _ => exact ih (ss := r) (as := q) (Γ := Γ) n h1 h2 hl
section
variable {K : PySem.W.Frag} {B : Base} {Hf H : Hp} {σ : St} {Γ : Env} {ps : List Pend}
theorem call_core {F : FS} {n : Nat} {vs : List V} {ss args args' : List Slot} {r : Slot} {qs : List Pend} {Q : VK} (R : Reach K B Hf H σ Γ (qs ++ ps)) (hd : HeldL vs ss qs) (ea : argsS Γ ss = some args) (nd : (borIx ss).Nodup)
    (eF : F args = some (r, args')) (hkr : keepable r = true) (hl : args'.length = args.length) (hn : vs.length = n)
    (kk : ∀ v fp Hf' H', Reach K B Hf' H' σ (backS Γ ss args') (⟨v, r, fp⟩ :: ps) → Q v H') : spF K n F vs H Q E0 := by
  classical
  obtain ⟨f, R⟩ := R
  obtain ⟨pw1, pw2, pw3⟩ := List.pairwise_append.mp R.pdis
  obtain ⟨fps, l1, l2, hfp, hdis⟩ := held_fps hd pw1
  obtain ⟨la, harg⟩ := argsS_get ea
  -- the argument's footprints
  let fa : Nat → List Addr := fun j => match ss[j]? with
    | some (.bor i) => f i
    | some _ => fps.getD j []
    | none => []
  have fa_bor : ∀ {j i}, ss[j]? = some (.bor i) → fa j = f i := fun {j i} h => by show (match ss[j]? with | some (.bor i) => f i | some _ => fps.getD j [] | none => []) = _; rw [h]
  have fa_oth : ∀ {j s}, ss[j]? = some s → (∀ i, s ≠ .bor i) → fa j = fps.getD j [] := fun {j s} h hne => by
    show (match ss[j]? with | some (.bor i) => f i | some _ => fps.getD j [] | none => []) = _
    rw [h]
    cases s with
    | bor i => exact absurd rfl (hne i)
    | _ => rfl
  have fa_none : ∀ {j}, ss[j]? = none → fa j = [] := fun {j} h => by show (match ss[j]? with | some (.bor i) => f i | some _ => fps.getD j [] | none => []) = _; rw [h]
  have held : ∀ {j s}, ss[j]? = some s → ∃ v fp, vs[j]? = some v ∧ fps[j]? = some fp ∧ fps.getD j [] = fp ∧ (⟨v, s, fp⟩ : Pend) ∈ qs := fun {j s} h => by
    have hj := (List.getElem?_eq_some_iff.mp h).1
    have h1 : vs[j]? = some (vs[j]'(by omega)) := List.getElem?_eq_getElem (by omega)
    have h2 : fps[j]? = some (fps[j]'(by omega)) := List.getElem?_eq_getElem (by omega)
    exact ⟨_, _, h1, h2, by rw [List.getD_eq_getElem?_getD, h2]; rfl, hfp j _ _ _ h1 h h2⟩
  have inP : ∀ {p}, p ∈ qs → p ∈ qs ++ ps := fun h => List.mem_append_left _ h
  -- whose an argument's address is
  have whose : ∀ {j a}, a ∈ fa j → (∃ i, ss[j]? = some (.bor i) ∧ a ∈ f i) ∨ (∃ p ∈ qs, a ∈ p.fp ∧ ∃ fp, fps[j]? = some fp ∧ p.fp = fp) := fun {j a} ha => by
    cases e : ss[j]? with
    | none => rw [fa_none e] at ha; cases ha
    | some s =>
      obtain ⟨v, fp, e1, e2, e3, e4⟩ := held e
      cases s with
      | bor i => rw [fa_bor e] at ha; exact .inl ⟨i, rfl, ha⟩
      | _ => rw [fa_oth e (by intro i z; cases z), e3] at ha; exact .inr ⟨_, e4, ha, fp, e2, rfl⟩
  have vlen : ∀ j, (vs.map some)[j]? = (vs[j]?).map some := fun j => List.getElem?_map
  have RA : ReachF K ⟨Hf, H, fun a => ∃ i, a ∈ fa i⟩ Hf H (vs.map some) args fa [] := by
    refine ⟨by rw [List.length_map, la, l1, l2], R.sub, fun j t e => ?_, fun j e => ?_, fun i j a ha hb => ?_, by simp, by simp, by simp, Evl.Ex.refl _, fun _ _ h _ _ => h, fun _ o h n => ⟨o, h, n⟩, fun _ h => .inl h, fun i a h => .inr ⟨i, h⟩, by simp, R.tab⟩
    · obtain ⟨s, e1, e2⟩ := harg j t e
      obtain ⟨v, fp, q1, q2, q3, q4⟩ := held e1
      have P := R.pend _ (inP q4)
      rw [vlen, q1]
      cases s with
      | no => cases e2
      | d x =>
        cases e2
        rw [fa_oth e1 (by intro i z; cases z), q3]
        exact ⟨P.1, v, rfl, P.2⟩
      | own o =>
        cases e2
        rw [fa_oth e1 (by intro i z; cases z), q3]
        obtain ⟨a, ha, hb⟩ := P
        exact ⟨a, by simp only at ha; rw [ha]; rfl, hb⟩
      | fn a =>
        cases e2
        rw [fa_oth e1 (by intro i z; cases z), q3]
        exact ⟨P.1, by have := P.2; simp only at this; rw [this]; rfl⟩
      | bor i =>
        rw [fa_bor e1]
        simp only [argS] at e2
        have hσ : σ[i]? = some (some v) := P.2
        split at e2
        · rename_i o ho
          cases e2
          have q := R.slot i _ ho
          rw [hσ] at q
          exact q
        · rename_i x hx
          cases e2
          have q := R.slot i _ hx
          rw [hσ] at q
          exact q
        · cases e2
    · have : ss[j]? = none := by
        rw [List.getElem?_eq_none_iff] at e ⊢
        rw [← la]; exact e
      exact fa_none this
    · rcases whose ha with ⟨k1, e1, h1⟩ | ⟨p1, hp1, h1, g1, eg1, ep1⟩
      · rcases whose hb with ⟨k2, e2, h2⟩ | ⟨p2, hp2, h2, _⟩
        · have := R.disj k1 k2 a h1 h2
          subst this
          exact borIx_inj nd e1 e2
        · exact absurd h1 (R.psl p2 (inP hp2) a h2 k1)
      · rcases whose hb with ⟨k2, e2, h2⟩ | ⟨p2, hp2, h2, g2, eg2, ep2⟩
        · exact absurd h2 (R.psl p1 (inP hp1) a h1 k2)
        · rw [ep1] at h1
          rw [ep2] at h2
          exact hdis i j g1 g2 a eg1 eg2 h1 h2
  refine ⟨hn, Hf, args, fa, r, args', RA, eF, fun v fp Hf' H' ⟨f', R'⟩ => ?_⟩
  -- back in the caller's frame
  have notO : ∀ {a}, (∀ j, a ∉ fa j) → ¬ ∃ i, a ∈ fa i := fun h ⟨i, hi⟩ => h i hi
  have offS : ∀ {i a}, a ∈ f i → i ∉ borIx ss → ∀ j, a ∉ fa j := fun {i a} ha hi j hj => by
    rcases whose hj with ⟨k1, e1, h1⟩ | ⟨p1, hp1, h1, _⟩
    · exact hi (by rw [R.disj i k1 a ha h1]; exact borIx_mem.mpr ⟨j, e1⟩)
    · exact R.psl p1 (inP hp1) a h1 i ha
  have offP : ∀ {p a}, p ∈ ps → a ∈ p.fp → ∀ j, a ∉ fa j := fun {p a} hp ha j hj => by
    rcases whose hj with ⟨k1, e1, h1⟩ | ⟨p1, hp1, h1, _⟩
    · exact R.psl p (List.mem_append_right _ hp) a ha k1 h1
    · exact pw3 p1 hp1 p hp a h1 ha
  have stayH : ∀ {a}, (∀ j, a ∉ fa j) → H a ≠ none → (∀ u, H a = some u → NT u) → H' a = H a := fun {a} h1 h2 h3 => by
    cases q : H a with
    | none => exact absurd q h2
    | some u => exact R'.keep a u q (notO h1) (h3 u q)
  have stayF : ∀ {a}, (∀ j, a ∉ fa j) → Hf a = none → H a ≠ none → (∀ u, H a = some u → NT u) → Hf' a = none := fun {a} h1 h2 h3 h4 => by
    by_cases q : Hf' a = none
    · exact q
    · rcases R'.new a q with z | z | z
      · exact absurd h2 z
      · cases hu : H a with
        | none => exact absurd hu h3
        | some u => exact absurd (h4 u hu) (z u hu)
      · exact absurd z (notO h1)
  have bo : ∀ {a}, (NB ⟨Hf, H, fun a => ∃ i, a ∈ fa i⟩ a ∨ ∃ i, a ∈ fa i) → NB B a ∨ B.O a := fun {a} h => by
    rcases h with h | ⟨j, h⟩
    · refine .inl fun o h2 h3 => ?_
      obtain ⟨u, h4, h5⟩ := R.dom a o h2 h3
      exact h u h4 h5
    · rcases whose h with ⟨k1, e1, h1⟩ | ⟨p1, hp1, h1, _⟩
      · exact R.own k1 a h1
      · exact R.pown p1 (inP hp1) a h1
  -- what is held by the call's side is new or was an argument's
  have far : ∀ {a}, (NB ⟨Hf, H, fun a => ∃ i, a ∈ fa i⟩ a ∨ ∃ i, a ∈ fa i) → (∀ i, i ∉ borIx ss → a ∉ f i) ∧ ∀ p ∈ ps, a ∉ p.fp := fun {a} h => by
    rcases h with h | ⟨j, h⟩
    · have nn : H a ≠ none → (∀ u, H a = some u → NT u) → False := fun h1 h2 => by
        cases hu : H a with
        | none => exact h1 hu
        | some u => exact h u hu (h2 u hu)
      exact ⟨fun i _ hi => nn (R.off i a hi).2 (R.nt i a hi), fun p hp ha => nn (R.poff (List.mem_append_right _ hp) a ha).2 (R.pnt (List.mem_append_right _ hp) a ha)⟩
    · exact ⟨fun i hi ha => offS ha hi j h, fun p hp ha => offP hp ha j h⟩
  let ix : Nat → Nat := fun i => if h : ∃ j : Nat, ss[j]? = some (.bor i) then Classical.choose h else 0
  have ix_of : ∀ {i}, i ∈ borIx ss → ss[ix i]? = some (.bor i) := fun {i} hi => by
    have h := borIx_mem.mp hi
    show ss[if h : ∃ j : Nat, ss[j]? = some (.bor i) then Classical.choose h else 0]? = _
    rw [dif_pos h]
    exact Classical.choose_spec h
  have blen : ∀ {i}, i ∈ borIx ss → i < Γ.length := fun {i} hi => by
    obtain ⟨v, fp, _, _, _, q4⟩ := held (ix_of hi)
    have hσ : σ[i]? = some (some v) := (R.pend _ (inP q4)).2
    have := (List.getElem?_eq_some_iff.mp hσ).1
    rw [← R.len]; exact this
  have aix : ∀ {i}, i ∈ borIx ss → ∃ t, args'[ix i]? = some t := fun {i} hi => by
    have hj := (List.getElem?_eq_some_iff.mp (ix_of hi)).1
    exact ⟨_, List.getElem?_eq_getElem (by omega)⟩
  let fn : Nat → List Addr := fun i => if i ∈ borIx ss then f' (ix i) else f i
  have fn_in : ∀ {i}, i ∈ borIx ss → fn i = f' (ix i) := fun {i} h => if_pos h
  have fn_out : ∀ {i}, i ∉ borIx ss → fn i = f i := fun {i} h => if_neg h
  have P0 := R'.pend _ List.mem_cons_self
  refine kk v fp Hf' H' ⟨fn, ?_⟩
  refine ⟨by rw [backS_len]; exact R.len, R'.sub, fun i g e => ?_, fun i e => ?_, fun i j a ha hb => ?_, fun p hp => ?_, ?_, fun p hp a ha i hi => ?_, R.ex.trans R'.ex, fun a u h1 h2 h3 => ?_, fun a o h1 h2 => ?_, fun a h => ?_, fun i a ha => ?_, fun p hp a ha => ?_, R'.tab⟩
  · -- slots
    by_cases hi : i ∈ borIx ss
    · obtain ⟨t, ht⟩ := aix hi
      rw [backS_in nd (ix_of hi) ht (blen hi)] at e
      cases e
      rw [fn_in hi]
      obtain ⟨w, fq, q1, _, _, q4⟩ := held (ix_of hi)
      have hσ : σ[i]? = some (some w) := (R.pend _ (inP q4)).2
      have q := R'.slot (ix i) _ ht
      rw [vlen, q1] at q
      rw [hσ]
      exact q
    · rw [backS_out hi] at e
      rw [fn_out hi]
      exact (R.slot i g e).stay (fun b hb => stayH (offS hb hi) (R.off i b hb).2 (R.nt i b hb)) R'.ex fun b hb => stayF (offS hb hi) (R.off i b hb).1 (R.off i b hb).2 (R.nt i b hb)
  · have hi : i ∉ borIx ss := fun hi => by
      obtain ⟨t, ht⟩ := aix hi
      rw [backS_in nd (ix_of hi) ht (blen hi)] at e
      cases e
    rw [backS_out hi] at e
    rw [fn_out hi]
    exact R.out i e
  · by_cases hi : i ∈ borIx ss
    · rw [fn_in hi] at ha
      by_cases hj : j ∈ borIx ss
      · rw [fn_in hj] at hb
        have := R'.disj _ _ a ha hb
        have e1 := ix_of hi
        have e2 := ix_of hj
        rw [this, e2] at e1
        cases e1
        rfl
      · rw [fn_out hj] at hb
        exact absurd hb ((far (R'.own _ a ha)).1 j hj)
    · rw [fn_out hi] at ha
      by_cases hj : j ∈ borIx ss
      · rw [fn_in hj] at hb
        exact absurd ha ((far (R'.own _ a hb)).1 i hi)
      · rw [fn_out hj] at hb
        exact R.disj i j a ha hb
  · rcases List.mem_cons.mp hp with rfl | hp
    · -- the result
      cases r with
      | no => exact P0
      | d x => exact P0
      | own o => exact P0
      | fn a => exact P0
      | bor i => cases hkr
    · exact (R.pend p (List.mem_append_right _ hp)).stay (fun b hb => stayH (offP hp hb) (R.poff (List.mem_append_right _ hp) b hb).2 (R.pnt (List.mem_append_right _ hp) b hb)) R'.ex fun b hb => stayF (offP hp hb) (R.poff (List.mem_append_right _ hp) b hb).1 (R.poff (List.mem_append_right _ hp) b hb).2 (R.pnt (List.mem_append_right _ hp) b hb)
  · exact List.pairwise_cons.mpr ⟨fun p hp a ha => (far (R'.pown _ List.mem_cons_self a ha)).2 p hp, pw2⟩
  · rcases List.mem_cons.mp hp with rfl | hp
    · by_cases hb : i ∈ borIx ss
      · rw [fn_in hb] at hi
        exact R'.psl _ List.mem_cons_self a ha _ hi
      · rw [fn_out hb] at hi
        exact (far (R'.pown _ List.mem_cons_self a ha)).1 i hb hi
    · by_cases hb : i ∈ borIx ss
      · rw [fn_in hb] at hi
        exact (far (R'.own _ a hi)).2 p hp ha
      · rw [fn_out hb] at hi
        exact R.psl p (List.mem_append_right _ hp) a ha i hi
  · by_cases q : ∃ j, a ∈ fa j
    · rcases bo (.inr q) with z | z
      · exact absurd h3 (z u h1)
      · exact absurd z h2
    · exact R'.keep a u (R.keep a u h1 h2 h3) q h3
  · obtain ⟨u, h3, h4⟩ := R.dom a o h1 h2
    exact R'.dom a u h3 h4
  · rcases R'.new a h with z | z | z
    · exact R.new a z
    · exact .inr (bo (.inl z))
    · exact .inr (bo (.inr z))
  · by_cases hb : i ∈ borIx ss
    · rw [fn_in hb] at ha
      exact bo (R'.own _ a ha)
    · rw [fn_out hb] at ha
      exact R.own i a ha
  · rcases List.mem_cons.mp hp with rfl | hp
    · exact bo (R'.pown _ List.mem_cons_self a ha)
    · exact R.pown p (List.mem_append_right _ hp) a ha
end
end DL

set_option Elab.async false
set_option linter.all false
set_option maxRecDepth 100000
set_option maxHeartbeats 4000000
namespace DL
open PySem L2
variable [TabsC]
theorem HeldL.len : ∀ {vs : List V} {ss : List Slot} {qs : List Pend}, HeldL vs ss qs → vs.length = ss.length
  | _, _, _, .nil => rfl
  | _, _, _, .cons h => by simp [h.len]
section
variable {X : Cx} {a : Expr} {es : List Expr} {mr : MA} {pos p : Pos} {k j n : Nat} {x : Str} {f : Addr} {fd : FuncData} {ps : List Str} {F : FS}
theorem call_imp {K : PySem.W.Frag} {σ : St} {H : Hp} {Q : VK} (h : tM K (mCall n F mr) σ H Q) : tCall (spF K n F) [] E0 (tAr K mr) σ H Q := by
  obtain ⟨B, Hf, Γ, ps, r, Γ', R, e, kk⟩ := h
  obtain ⟨⟨ss, Γ1⟩, e1, e⟩ := bindE e
  obtain ⟨args, e2, e⟩ := bindE e
  simp only at e
  split at e
  · rename_i hc
    obtain ⟨⟨r1, args'⟩, e3, e⟩ := bindE e
    simp only at e
    split at e
    · rename_i hk
      cases e
      refine ⟨B, Hf, Γ, ps, ss, Γ1, R, e1, fun vs qs Hf1 H1 hd R1 => ?_⟩
      show spF K n F (vs ++ []) H1 Q E0
      rw [List.append_nil]
      exact call_core R1 hd e2 hc.2 e3 hk.1 hk.2 (hd.len.trans hc.1) kk
    · cases e
  · cases e
theorem d_call (G : FnOk X.prog X.w X.K X.mg X.base CX0 j f fd ps (spF X.K n F)) (c : Cok k X) (hj : j ≤ k) (hm : X.mg x = some (.ref f)) (hk : PySem.W.keepIn X.K (.ref f) = true) (hb : Binds X.K fd ps []) (ha : PA X (a :: es) (tAr X.K mr))
    (hg : Gl X x := by rfl) (hdb : (x == ("__debug__" : Str)) = false := by decide) (he : starEach (a :: es) X.env = (false, eval a X.env) :: starEach es X.env := by rfl) (hpl : (backTo pos (starEach es X.env)).any (·.1) = false := by rfl) :
    PE X (.Call (.Name x p) (a :: es) [] pos) (tM X.K (mCall n F mr)) :=
  PE.imp (pe_call G (c.room.mono hj) hg hm hk hb .nil pass0 ha hdb he hpl) fun _ _ _ => call_imp
theorem d_call0 (G : FnOk X.prog X.w X.K X.mg X.base CX0 j f fd [] (spF X.K 0 F)) (c : Cok k X) (hj : j ≤ k) (hm : X.mg x = some (.ref f)) (hk : PySem.W.keepIn X.K (.ref f) = true) (hb : Binds X.K fd [] [])
    (hg : Gl X x := by rfl) (hdb : (x == ("__debug__" : Str)) = false := by decide) : PE X (.Call (.Name x p) [] [] pos) (tM X.K (mCall 0 F mA0)) :=
  PE.imp (pe_call0 G (c.room.mono hj) hg hm hk hb .nil pass0 hdb) fun σ H Q h => by
    have h := call_imp h
    obtain ⟨B, Hf, Γ, ps, r, Γ', R, e, kk⟩ := h
    cases e
    exact kk [] [] Hf H .nil R
end

/-! ### a def's body -/
def pickF (W : List Nat) : Nat → List Slot → Env → List Slot
  | _, [], _ => []
  | i, a :: r, Γ => (if i ∈ W then a else Γ.getD i .no) :: pickF W (i + 1) r Γ
def noOwn : Slot → Bool
  | .own _ => false
  | _ => true
def okAsg (W : List Nat) : Nat → List Slot → Bool
  | _, [] => true
  | i, a :: r => (!decide (i ∈ W) || noOwn a) && okAsg W (i + 1) r
def runF (n N : Nat) (W : List Nat) (m : MS) : FS := fun args => if args.length = n ∧ okAsg W 0 args = true then (m (args ++ List.replicate (N - n) .no)).bind fun p => match p.1 with
    | .ret r => if keepable r = true then some (r, pickF W 0 args p.2) else none
    | .nx => some (.d .none, pickF W 0 args p.2)
    | _ => none
  else none
theorem pickF_len {W : List Nat} {Γ : Env} : ∀ {args : List Slot} {i : Nat}, (pickF W i args Γ).length = args.length
  | [], _ => rfl
  | a :: r, i => by rw [pickF, List.length_cons, List.length_cons, pickF_len]
theorem pickF_get {W : List Nat} {Γ : Env} : ∀ {args : List Slot} {i j : Nat}, (pickF W i args Γ)[j]? = (args[j]?).map fun a => if i + j ∈ W then a else Γ.getD (i + j) .no
  | [], _, _ => by simp [pickF]
  | a :: r, i, 0 => by simp [pickF]
  | a :: r, i, j + 1 => by
    have e : i + (j + 1) = i + 1 + j := by omega
    rw [pickF, List.getElem?_cons_succ, List.getElem?_cons_succ, pickF_get, e]
theorem okAsg_get {W : List Nat} : ∀ {args : List Slot} {i j : Nat} {a : Slot}, okAsg W i args = true → args[j]? = some a → i + j ∈ W → noOwn a = true
  | [], _, _, _, _, h, _ => by simp at h
  | b :: r, i, 0, a, h, e, hw => by
    simp at e
    subst e
    rw [okAsg, Bool.and_eq_true] at h
    simp only [Nat.add_zero] at hw
    simpa [hw] using h.1
  | b :: r, i, j + 1, a, h, e, hw => by
    rw [okAsg, Bool.and_eq_true] at h
    exact okAsg_get (i := i + 1) (j := j) h.2 (by simpa using e) (by have e : i + 1 + j = i + (j + 1) := by omega
                                                                     rw [e]; exact hw)
section
variable {P : Program} {w : World} {K : PySem.W.Frag} {mg : Str → Option Value} {base : Heap}
theorem start_eq {N : List Str} {vs : List V} : start N vs = vs.map some ++ List.replicate (N.length - vs.length) none := rfl
theorem run_of {n N : Nat} {Ns : List Str} {W : List Nat} {m : MS} {vs : List V} {H : Hp} {Q : VK} {E : XK} (hN : Ns.length = N) (hle : n ≤ N) (h : spF K n (runF n N W m) vs H Q E) :
    tS K W m { nx := fun _ H' => Q .non H', rt := Q } (start Ns vs) H := by
  obtain ⟨hn, Hf, args, f, r, args', RA, eF, kk⟩ := h
  simp only [runF] at eF
  split at eF
  · rename_i hc
    obtain ⟨ha, hok⟩ := hc
    obtain ⟨⟨fl, Γ'⟩, e1, eF⟩ := bindE eF
    rw [start_eq, hN, hn]
    -- the frame at the start
    have getS : ∀ i, (vs.map some ++ List.replicate (N - n) none : St)[i]? = if i < n then (vs.map some)[i]? else if i < N then some none else none := fun i => by
      by_cases h1 : i < n
      · rw [if_pos h1, List.getElem?_append_left (by rw [List.length_map, hn]; exact h1)]
      · rw [if_neg h1, List.getElem?_append_right (by rw [List.length_map, hn]; omega), List.getElem?_replicate, List.length_map, hn]
        by_cases h2 : i < N
        · rw [if_pos h2, if_pos (by omega)]
        · rw [if_neg h2, if_neg (by omega)]
    have getG : ∀ i, (args ++ List.replicate (N - n) Slot.no)[i]? = if i < n then args[i]? else if i < N then some .no else none := fun i => by
      by_cases h1 : i < n
      · rw [if_pos h1, List.getElem?_append_left (by omega)]
      · rw [if_neg h1, List.getElem?_append_right (by omega), List.getElem?_replicate, ha]
        by_cases h2 : i < N
        · rw [if_pos h2, if_pos (by omega)]
        · rw [if_neg h2, if_neg (by omega)]
    have fout : ∀ i, n ≤ i → f i = [] := fun i hi => RA.out i (List.getElem?_eq_none (by omega))
    have R0 : ReachF K ⟨Hf, H, fun a => ∃ i, a ∈ f i⟩ Hf H (vs.map some ++ List.replicate (N - n) none) (args ++ List.replicate (N - n) .no) f [] := by
      refine ⟨by simp [ha, hn], RA.sub, fun i g e => ?_, fun i e => ?_, RA.disj, by simp, RA.pdis, RA.psl, RA.ex, RA.keep, RA.dom, RA.new, RA.own, RA.pown, RA.tab⟩
      · rw [getG] at e
        rw [getS]
        split at e
        · rename_i h1
          rw [if_pos h1]
          exact RA.slot i g e
        · rename_i h1
          split at e
          · cases e
            exact fout i (by omega)
          · cases e
      · rw [getG] at e
        split at e
        · exact RA.out i e
        · exact fout i (by omega)
    have back : ∀ {σ' v fp Hf' H' r'}, keepable r' = true → Stay W (vs.map some ++ List.replicate (N - n) none) σ' → Reach K ⟨Hf, H, fun a => ∃ i, a ∈ f i⟩ Hf' H' σ' Γ' [⟨v, r', fp⟩] →
        Reach K ⟨Hf, H, fun a => ∃ i, a ∈ f i⟩ Hf' H' (vs.map some) (pickF W 0 args Γ') [⟨v, r', fp⟩] := fun {σ' v fp Hf' H' r'} hk hs ⟨f', R'⟩ => by
      have sub : ∀ i a, a ∈ (if i < n ∧ i ∉ W ∧ i < Γ'.length then f' i else []) → a ∈ f' i := fun i a h => by
        split at h
        · exact h
        · cases h
      refine ⟨fun i => if i < n ∧ i ∉ W ∧ i < Γ'.length then f' i else [], by rw [List.length_map, pickF_len, ha, hn], R'.sub, fun i g e => ?_, fun i e => ?_, fun i j a h1 h2 => R'.disj i j a (sub i a h1) (sub j a h2), fun p hp => ?_, R'.pdis, fun p hp a h1 i h2 => R'.psl p hp a h1 i (sub i a h2), R'.ex, R'.keep, R'.dom, R'.new, fun i a h => R'.own i a (sub i a h), R'.pown, R'.tab⟩
      · rw [pickF_get, Nat.zero_add] at e
        cases ea : args[i]? with
        | none => rw [ea] at e; cases e
        | some t =>
          rw [ea] at e
          simp only [Option.map_some, Option.some.injEq] at e
          have hin : i < n := by have := (List.getElem?_eq_some_iff.mp ea).1; omega
          by_cases hw : i ∈ W
          · rw [if_pos hw] at e
            subst e
            rw [if_neg (fun z => z.2.1 hw)]
            have no := okAsg_get hok ea (by rw [Nat.zero_add]; exact hw)
            have q := RA.slot i _ ea
            cases t with
            | no => rfl
            | d x => obtain ⟨_, u, q1, q2⟩ := q; exact ⟨rfl, u, q1, q2.mono R'.ex⟩
            | fn a => exact ⟨rfl, q.2⟩
            | own o => cases no
            | bor j => exact q.elim
          · rw [if_neg hw] at e
            subst e
            have es : σ'[i]? = (vs.map some)[i]? := by rw [hs i hw, getS, if_pos hin]
            by_cases hl : i < Γ'.length
            · rw [if_pos ⟨hin, hw, hl⟩]
              have hg : Γ'[i]? = some (Γ'.getD i .no) := by rw [List.getD_eq_getElem?_getD, List.getElem?_eq_getElem hl]; rfl
              have q := R'.slot i _ hg
              rw [es] at q
              exact q
            · rw [if_neg (fun z => hl z.2.2)]
              have hg : Γ'.getD i .no = .no := by rw [List.getD_eq_getElem?_getD, List.getElem?_eq_none (by omega)]; rfl
              rw [hg]
              rfl
      · rw [pickF_get, Option.map_eq_none_iff, List.getElem?_eq_none_iff] at e
        rw [if_neg (fun z => by omega)]
      · simp only [List.mem_singleton] at hp
        subst hp
        have q := R'.pend _ (List.mem_singleton.mpr rfl)
        cases r' with
        | bor j => cases hk
        | no => exact q
        | d x => exact q
        | own o => exact q
        | fn a => exact q
    refine ⟨_, Hf, _, fl, Γ', ⟨f, R0⟩, e1, ?_⟩
    cases fl with
    | nx =>
      simp only [Option.some.injEq, Prod.mk.injEq] at eF
      obtain ⟨rfl, rfl⟩ := eF
      intro σ' Hf' H' hs R'
      obtain ⟨f', R'⟩ := R'
      exact kk .non [] Hf' H' (back rfl hs ⟨f', R'.pushD .non⟩)
    | ret r' =>
      simp only at eF
      split at eF
      · rename_i hk
        cases eF
        exact fun σ' v fp Hf' H' hs R' => kk v fp Hf' H' (back hk hs R')
      · cases eF
    | bk => cases eF
    | ct => cases eF
  · cases eF
/-- a def keeps the promise of what its body does -/
theorem okM {x qual : Str} {st : Stmt} {f : Addr} {fd : FuncData} {N ps : List Str} {k : Nat} {W : List Nat} {m : MS} (F : Fun K x qual st f fd) (S : FnScope N ps (defScope st))
    (hb : ∀ (cdv : Value) (A : Around) (outer : List PySem.Env) (s : Shared) (H : Hp) (E : XK), Cok k (cxOf CX0 P w K mg base N qual (defScope st) f cdv A outer s H E).nox →
      PSs (cxOf CX0 P w K mg base N qual (defScope st) f cdv A outer s H E).nox (defBody st) (tS K W m)) : FnOk P w K mg base CX0 (k + 1) f fd ps (spF K ps.length (runF ps.length N.length W m)) := by
  refine F.ok S (fun vs H Q E h => h.1) fun cdv A outer s H vs Q E hr h => ⟨tS K W m, hb cdv A outer s H E ⟨rfl, hr, S.nd⟩, run_of rfl ?_ h⟩
  have := congrArg List.length S.pre
  rw [List.length_take] at this
  omega
/-- a promise for less -/
theorem FnOk.le {f : Addr} {fd : FuncData} {ps : List Str} {j n : Nat} {F G : FS} (h : FnOk P w K mg base CX0 j f fd ps (spF K n F)) (le : ∀ args r, G args = some r → F args = some r) : FnOk P w K mg base CX0 j f fd ps (spF K n G) :=
  h.imp fun vs H Q E ⟨hn, Hf, args, f, r, args', RA, eG, kk⟩ => ⟨hn, Hf, args, f, r, args', RA, le _ _ eG, kk⟩
/-- nothing promised -/
theorem FnOk.bot {f : Addr} {fd : FuncData} {ps : List Str} {j : Nat} : FnOk P w K mg base CX0 j f fd ps (spF K ps.length fun _ => none) :=
  ⟨fun vs H Q E h => h.1, fun A outer s H args us vs Q E _ _ _ _ h => by obtain ⟨_, Hf, args, f, r, args', RA, eG, kk⟩ := h; cases eG⟩
end
end DL

set_option Elab.async false
set_option linter.all false
set_option maxRecDepth 100000
set_option maxHeartbeats 4000000
namespace DL
open PySem L2
variable [TabsC]
/-! ### isinstance -/
inductive Ty where
  | int | bool | str | tup | lst | dct
def Ty.nm : Ty → String
  | .int => "int" | .bool => "bool" | .str => "str" | .tup => "tuple" | .lst => "list" | .dct => "dict"
def tyName : Dat → String
  | .none => "NoneType" | .bool _ => "bool" | .int _ => "int" | .str _ => "str" | .list _ => "list" | .tuple _ => "tuple" | .dict _ => "dict"
def isTy : Ty → Dat → Bool
  | .int, .int _ => true
  | .int, .bool _ => true
  | .bool, .bool _ => true
  | .str, .str _ => true
  | .tup, .tuple _ => true
  | .lst, .list _ => true
  | .dct, .dict _ => true
  | _, _ => false
inductive DT where
  | non | bool | int | str | lst | tup | dct
def DT.nm : DT → String
  | .non => "NoneType" | .bool => "bool" | .int => "int" | .str => "str" | .lst => "list" | .tup => "tuple" | .dct => "dict"
def dtOf : Dat → DT
  | .none => .non | .bool _ => .bool | .int _ => .int | .str _ => .str | .list _ => .lst | .tuple _ => .tup | .dict _ => .dct
def isT2 : Ty → DT → Bool
  | .int, .int => true
  | .int, .bool => true
  | .bool, .bool => true
  | .str, .str => true
  | .tup, .tup => true
  | .lst, .lst => true
  | .dct, .dct => true
  | _, _ => false
theorem kitT2 (t : Ty) (d : DT) : kitB d.nm t.nm = some (isT2 t d) := by
  cases t <;> cases d <;> decide +kernel
theorem kitTy (t : Ty) (d : Dat) : kitB (tyName d) t.nm = some (isTy t d) := by
  have h1 : tyName d = (dtOf d).nm := by cases d <;> rfl
  have h2 : isTy t d = isT2 t (dtOf d) := by cases t <;> cases d <;> rfl
  rw [h1, h2]
  exact kitT2 t _
theorem bootTy : ∀ t : Ty, bootBuiltins (Str.ofString t.nm) = some (.type t.nm) := by
  intro t
  cases t <;> decide +kernel
section
variable {X : Cx} {K : PySem.W.Frag} {a b c e : Expr} {ma mb mc me : M} {pos p : Pos} {k : Nat}
theorem tyX {H : Hp} {v : V} {d : Dat} (h : Den K H v d) : TyX K H v (.type (tyName d)) := by
  cases h with
  | non => exact .base .non
  | bl b => exact .base (.bl b)
  | int i => exact .base (.int i)
  | str x => exact .base (.str x)
  | lst s r =>
    rcases s with s | ⟨o, s⟩
    · exact .base (.lst s)
    · exact .base (.frz s)
  | tup s r =>
    rcases s with (s | ⟨o, s⟩) | ⟨o, its, n, e1, e2, _⟩
    · exact .base (.tup s)
    · exact .fTuple s
    · exact .kTuple e1 e2
  | dct s r =>
    rcases s with s | ⟨o, s⟩
    · exact .base (.dK s)
    · exact .fDict s
def mIsi (t : Ty) (m : M) : M := fun Γ => (m Γ).bind fun p => (viewD p.2 p.1).bind fun d => some (.d (.bool (isTy t d)), p.2)
def mIsi2 (t u : Ty) (m : M) : M := fun Γ => (m Γ).bind fun p => (viewD p.2 p.1).bind fun d => some (.d (.bool (isTy t d || isTy u d)), p.2)
theorem d_isi (t : Ty) {nm : Str} {q : Pos} (ha : PE X a (tM X.K ma)) (hm : X.mg "isinstance" = none) (hmt : X.mg nm = none) (hn : nm = Str.ofString t.nm := by rfl) (hg : Gl X "isinstance" := by rfl) (hgt : Gl X nm := by rfl)
    (hs : starEach [a, .Name nm q] X.env = (false, eval a X.env) :: starEach [.Name nm q] X.env := by rfl) (hs2 : starEach [.Name nm q] X.env = (false, eval (.Name nm q) X.env) :: starEach [] X.env := by rfl)
    (hn1 : nm ≠ "__name__" := by decide) (hd1 : (nm == ("__debug__" : Str)) = false := by decide) (hpl : (backTo pos (starEach [.Name nm q] X.env)).any (·.1) = false := by rfl) :
    PE X (.Call (.Name "isinstance" p) [a, .Name nm q] [] pos) (tM X.K (mIsi t ma)) :=
  PE.imp (pe_callB call_isi hg hm (by decide +kernel) (pa_cons ha (pa_cons (pe_bltn (v := .ty t.nm) hgt hmt (by rw [hn]; exact bootTy t) rfl hn1 hd1) pa_nil hs2) hs) (he := hs) (hpl := hpl)) fun σ H Q h => by
    obtain ⟨B, Hf, Γ, ps, r, Γ', R, e, kk⟩ := h
    obtain ⟨⟨s1, Γ1⟩, e1, e⟩ := bindE e
    obtain ⟨d, e2, e⟩ := bindE e
    cases e
    refine ⟨B, Hf, Γ, ps, s1, Γ1, R, e1, fun x fp Hf1 H1 ⟨f, R1⟩ => ?_⟩
    have v1 := R1.viewP (p := ⟨x, s1, fp⟩) (by simp) e2
    exact ⟨x, .ty t.nm, _, _, _, rfl, .ty _, tyX v1, kit_ty (kitTy t d), kk _ [] Hf1 H1 ⟨f, R1.pop.pushD (.bl _)⟩⟩
theorem d_isi2 (t u : Ty) {n1 n2 : Str} {q q2 tq : Pos} {x1 : Nat} (ha : PE X a (tM X.K ma)) (hm : X.mg "isinstance" = none) (hm1 : X.mg n1 = none) (hm2 : X.mg n2 = none) (hn1 : n1 = Str.ofString t.nm := by rfl) (hn2 : n2 = Str.ofString u.nm := by rfl)
    (hg : Gl X "isinstance" := by rfl) (hg1 : Gl X n1 := by rfl) (hg2 : Gl X n2 := by rfl)
    (hs : starEach [a, .Tuple [.Name n1 q, .Name n2 q2] x1 tq] X.env = (false, eval a X.env) :: starEach [.Tuple [.Name n1 q, .Name n2 q2] x1 tq] X.env := by rfl)
    (hs2 : starEach [.Tuple [.Name n1 q, .Name n2 q2] x1 tq] X.env = (false, eval (.Tuple [.Name n1 q, .Name n2 q2] x1 tq) X.env) :: starEach [] X.env := by rfl)
    (hs3 : starEach [.Name n1 q, .Name n2 q2] X.env = (false, eval (.Name n1 q) X.env) :: starEach [.Name n2 q2] X.env := by rfl) (hs4 : starEach [.Name n2 q2] X.env = (false, eval (.Name n2 q2) X.env) :: starEach [] X.env := by rfl)
    (ha1 : n1 ≠ "__name__" := by decide) (hd1 : (n1 == ("__debug__" : Str)) = false := by decide) (ha2 : n2 ≠ "__name__" := by decide) (hd2 : (n2 == ("__debug__" : Str)) = false := by decide)
    (hpl : (backTo pos (starEach [.Tuple [.Name n1 q, .Name n2 q2] x1 tq] X.env)).any (·.1) = false := by rfl) :
    PE X (.Call (.Name "isinstance" p) [a, .Tuple [.Name n1 q, .Name n2 q2] x1 tq] [] pos) (tM X.K (mIsi2 t u ma)) :=
  PE.imp (pe_callB call_isiT hg hm (by decide +kernel) (pa_cons ha (pa_cons (pe_tup (pa_cons (pe_bltn (v := .ty t.nm) hg1 hm1 (by rw [hn1]; exact bootTy t) rfl ha1 hd1) (pa_cons (pe_bltn (v := .ty u.nm) hg2 hm2 (by rw [hn2]; exact bootTy u) rfl ha2 hd2) pa_nil hs4) hs3)) pa_nil hs2) hs) (he := hs) (hpl := hpl)) fun σ H Q h => by
    obtain ⟨B, Hf, Γ, ps, r, Γ', R, e, kk⟩ := h
    obtain ⟨⟨s1, Γ1⟩, e1, e⟩ := bindE e
    obtain ⟨d, e2, e⟩ := bindE e
    cases e
    refine ⟨B, Hf, Γ, ps, s1, Γ1, R, e1, fun x fp Hf1 H1 ⟨f, R1⟩ => ?_⟩
    refine ⟨by show 2 ≤ sizeLine; decide, fun tp htp => ?_⟩
    have v1 := (R1.viewP (p := ⟨x, s1, fp⟩) (by simp) e2).mono (ex_upd (o := .tup [.ty t.nm, .ty u.nm]) htp)
    refine ⟨x, tp, [.ty t.nm, .ty u.nm], _, _, _, rfl, upd_same, .cons (.ty _) (.cons (.ty _) .nil), tyX v1, kitAny_cons (kit_ty (kitTy t d)) (r := isTy t d || isTy u d) (fun hb => kitAny_cons (kit_ty (kitTy u d)) (fun hc => ?_) (fun hc => ?_)) (fun hb => ?_), kk _ [] Hf1 _ ⟨f, (R1.pop.alloc htp).pushD (.bl _)⟩⟩
    · rw [hb, hc]; exact kitAny_nil
    · rw [hb, hc]; rfl
    · rw [hb]; rfl

/-! ### a < b < c -/
def mChain (g g2 : Slot → Slot → MT) (ma mb mc : M) : MT := fun Γ => (ma Γ).bind fun p => (mb p.2).bind fun q => (g p.1 q.1 q.2).bind fun t => if t.1 then (mc t.2).bind fun u => g2 q.1 u.1 u.2 else some (false, t.2)
def cmpI (f : Int → Int → Bool) : Slot → Slot → MT := fun s1 s2 Γ => match s1, s2 with
  | .d (.int i), .d (.int j) => some (f i j, Γ)
  | _, _ => none
theorem cmpI_some {f : Int → Int → Bool} {s1 s2 : Slot} {Γ Γ' : Env} {b : Bool} (h : cmpI f s1 s2 Γ = some (b, Γ')) : ∃ i j, s1 = .d (.int i) ∧ s2 = .d (.int j) ∧ b = f i j ∧ Γ' = Γ := by
  cases s1 with
  | d x =>
    cases x <;> cases s2 <;> simp only [cmpI, reduceCtorEq] at h
    rename_i y
    cases y <;> simp only [reduceCtorEq, Option.some.injEq, Prod.mk.injEq] at h
    exact ⟨_, _, rfl, rfl, h.1.symm, h.2.symm⟩
  | _ => cases h
theorem chain_imp {g g2 : Int → Int → Bool} {σ : St} {H : Hp} {Q : Bool → Hp → Prop} (h : tT K (mChain (cmpI g) (cmpI g2) ma mb mc) σ H Q) :
    tChain (rI0 fun i j => .bl (g i j)) (rI0 fun i j => .bl (g2 i j)) (tM K ma) (tM K mb) (tM K mc) σ H fun x H' => ∃ k, x = .bl k ∧ Q k H' := by
  obtain ⟨B, Hf, Γ, ps, r, Γ', R, e, kk⟩ := h
  obtain ⟨⟨s1, Γ1⟩, e1, e⟩ := bindE e
  obtain ⟨⟨s2, Γ2⟩, e2, e⟩ := bindE e
  obtain ⟨⟨b3, Γ3⟩, e3, e⟩ := bindE e
  obtain ⟨i, j, rfl, rfl, rfl, rfl⟩ := cmpI_some e3
  refine ⟨B, Hf, Γ, ps, _, Γ1, R, e1, fun x fp1 Hf1 H1 R1 => ⟨B, Hf1, Γ1, _, _, Γ3, R1, e2, fun y fp2 Hf2 H2 ⟨f2, R2⟩ => ?_⟩⟩
  have q2 := (R2.pend _ List.mem_cons_self).2
  have q1 := (R2.pop.pend _ List.mem_cons_self).2
  cases q1
  cases q2
  refine ⟨i, j, rfl, rfl, g i j, rfl, ?_⟩
  by_cases hg : g i j = true
  · rw [if_pos hg]
    simp only [hg, if_true] at e
    obtain ⟨⟨s4, Γ4⟩, e4, e⟩ := bindE e
    obtain ⟨j', l, hj, rfl, rfl, rfl⟩ := cmpI_some e
    cases hj
    refine ⟨B, Hf2, Γ3, _, _, _, ⟨f2, R2⟩, e4, fun z fp3 Hf3 H3 ⟨f3, R3⟩ => ?_⟩
    have q3 := (R3.pend _ List.mem_cons_self).2
    cases q3
    exact ⟨j, l, rfl, rfl, _, rfl, kk Hf3 H3 ⟨f3, R3.pop.pop.pop⟩⟩
  · rw [if_neg hg]
    simp only [hg, Bool.false_eq_true, if_false] at e
    cases e
    exact ⟨_, rfl, kk Hf2 H2 ⟨f2, R2.pop.pop⟩⟩
def iLt (i j : Int) : Bool := decide (i < j)
def iLe (i j : Int) : Bool := decide (i ≤ j)
theorem dt_lele (ha : PE X a (tM X.K ma)) (hb : PE X b (tM X.K mb)) (hc : PE X c (tM X.K mc)) (hm : lastMarks [.LtE, .LtE] [b, c] = false := by with_unfolding_all rfl) : PT X (.Compare a [.LtE, .LtE] [b, c] pos) (tT X.K (mChain (cmpI iLe) (cmpI iLe) ma mb mc)) :=
  PT.imp (pt_chain op_le op_le ha hb hc hm) fun _ _ _ h => chain_imp h
theorem dt_lelt (ha : PE X a (tM X.K ma)) (hb : PE X b (tM X.K mb)) (hc : PE X c (tM X.K mc)) (hm : lastMarks [.LtE, .Lt] [b, c] = false := by with_unfolding_all rfl) : PT X (.Compare a [.LtE, .Lt] [b, c] pos) (tT X.K (mChain (cmpI iLe) (cmpI iLt) ma mb mc)) :=
  PT.imp (pt_chain op_le op_lt ha hb hc hm) fun _ _ _ h => chain_imp h
def mVal (mt : MT) : M := fun Γ => (mt Γ).bind fun p => some (.d (.bool p.1), p.2)
theorem chain_val {g g2 : Int → Int → Bool} {σ : St} {H : Hp} {Q : VK} (h : tM K (mVal (mChain (cmpI g) (cmpI g2) ma mb mc)) σ H Q) :
    tChain (rI0 fun i j => .bl (g i j)) (rI0 fun i j => .bl (g2 i j)) (tM K ma) (tM K mb) (tM K mc) σ H Q := by
  obtain ⟨B, Hf, Γ, ps, r, Γ', R, e, kk⟩ := h
  obtain ⟨⟨bb, Γ1⟩, e1, e⟩ := bindE e
  cases e
  have := chain_imp (Q := fun k H' => Q (.bl k) H') ⟨B, Hf, Γ, ps, bb, _, R, e1, fun Hf' H' ⟨f, R'⟩ => kk (.bl bb) [] Hf' H' ⟨f, R'.pushD (.bl _)⟩⟩
  -- the wish on truths
  have mono : ∀ {Q1 Q2 : VK}, (∀ v H, Q1 v H → Q2 v H) → tChain (rI0 fun i j => .bl (g i j)) (rI0 fun i j => .bl (g2 i j)) (tM K ma) (tM K mb) (tM K mc) σ H Q1 → tChain (rI0 fun i j => .bl (g i j)) (rI0 fun i j => .bl (g2 i j)) (tM K ma) (tM K mb) (tM K mc) σ H Q2 := by
    intro Q1 Q2 hq ⟨B, Hf, Γ, ps, r, Γ', R, e, kk⟩
    refine ⟨B, Hf, Γ, ps, r, Γ', R, e, fun v fp Hf' H' R' => ?_⟩
    obtain ⟨B, Hf, Γ, ps, r, Γ', R, e, kk⟩ := kk v fp Hf' H' R'
    refine ⟨B, Hf, Γ, ps, r, Γ', R, e, fun v fp Hf' H' R' => ?_⟩
    obtain ⟨i, j, e1, e2, k, e3, q⟩ := kk v fp Hf' H' R'
    refine ⟨i, j, e1, e2, k, e3, ?_⟩
    split at q
    · rename_i hk
      rw [if_pos hk]
      obtain ⟨B, Hf, Γ, ps, r, Γ', R, e, kk⟩ := q
      refine ⟨B, Hf, Γ, ps, r, Γ', R, e, fun v fp Hf' H' R' => ?_⟩
      obtain ⟨i, j, e1, e2, q⟩ := kk v fp Hf' H' R'
      exact ⟨i, j, e1, e2, hq _ _ q⟩
    · rename_i hk
      rw [if_neg hk]
      exact hq _ _ q
  exact mono (fun v H ⟨k, e, q⟩ => by rw [e]; exact q) this
theorem d_lele (ha : PE X a (tM X.K ma)) (hb : PE X b (tM X.K mb)) (hc : PE X c (tM X.K mc)) (hm : lastMarks [.LtE, .LtE] [b, c] = false := by with_unfolding_all rfl) : PE X (.Compare a [.LtE, .LtE] [b, c] pos) (tM X.K (mVal (mChain (cmpI iLe) (cmpI iLe) ma mb mc))) :=
  PE.imp (pe_chain op_le op_le ha hb hc hm) fun _ _ _ h => chain_val h

/-! ### lists of the frame, written -/
variable {W : List Nat}
theorem own_lst {B : Base} {Hf H : Hp} {σ : St} {Γ : Env} {f : Nat → List Addr} {ps : List Pend} {i : Nat} {l : List Dat} {v : V} (R : ReachF K B Hf H σ Γ f ps) (hi : Γ[i]? = some (.own (.lst l))) (hv : σ[i]? = some (some v)) :
    ∃ p xs, v = .ref p ∧ f i = [p] ∧ Hf p = none ∧ H p = some (.lst xs) ∧ Dens K Hf xs l := by
  obtain ⟨a, e1, e2, e3, xs, e4, e5⟩ := R.slot i _ hi
  rw [hv] at e1
  cases e1
  exact ⟨a, xs, rfl, e2, e3, e4, e5⟩
theorem writeL {B : Base} {Hf H : Hp} {σ : St} {Γ : Env} {f : Nat → List Addr} {ps : List Pend} {i : Nat} {l l' : List Dat} {p : Addr} {ys : List V} (R : ReachF K B Hf H σ Γ f ps) (hi : Γ[i]? = some (.own (.lst l))) (hv : σ[i]? = some (some (.ref p)))
    (d : Dens K Hf ys l') : ReachF K B Hf (upd H p (.lst ys)) σ (Γ.set i (.own (.lst l'))) f ps := by
  obtain ⟨q, xs, e1, e2, e3, e4, e5⟩ := own_lst R hi hv
  cases e1
  exact R.writeS hi hv ⟨rfl, e3, ys, upd_same, d⟩ e2
/-- x[i] = e -/
def mSetIx (i : Nat) (mi mv : M) : MS := fun Γ => (mv Γ).bind fun p => (settle p.2 p.1).bind fun q => match q.2[i]? with
  | some (.own _) => (mi q.2).bind fun t => match t.1, t.2[i]? with
    | .d (.int n), some (.own (.lst l)) => (ixN l.length n).bind fun j => some (.nx, t.2.set i (.own (.lst (l.set j q.1))))
    | _, _ => none
  | _ => none
theorem ds_setIx (i : Nat) {x : Str} {np sp : Pos} (hv : PE X e (tM X.K me)) (ho : PE X (.Name x np) (tM X.K (mVar i))) (hi : PE X a (tM X.K ma))
    (ha : ∀ v, assign (.Subscript (.Name x np) a sp) X.env v = (do
      let ov ← holding [v] (eval (.Name x np) X.env)
      let iv ← holding [v, ov] (eval a X.env)
      standAt sp
      holding [v, ov, iv] (setItem ov iv v)
      release [v, ov, iv] []) := by intro _; rfl) (hs : swapsWithSole [.Subscript (.Name x np) a sp] e pos.line X.env = pure false := by rfl) (hw : swappedStores [.Subscript (.Name x np) a sp] e X.env = pure none := by rfl)
    (h1 : (assignEach [.Subscript (.Name x np) a sp] X.env).map (·.2) = [assign (.Subscript (.Name x np) a sp) X.env] := by rfl) :
    PS X (.Assign [.Subscript (.Name x np) a sp] e pos) (tS X.K [] (mSetIx i ma me)) := PS.imp (ps_asg hv (pg_sub ho hi set_list ha) hs hw h1) fun D σ H h => by
  obtain ⟨B, Hf, Γ, fl, Γ', R, ee, kk⟩ := h
  obtain ⟨⟨s1, Γ1⟩, e1, ee⟩ := bindE ee
  obtain ⟨⟨d, Γ2⟩, e2, ee⟩ := bindE ee
  simp only at ee
  split at ee
  · rename_i o ho'
    obtain ⟨⟨s3, Γ3⟩, e3, ee⟩ := bindE ee
    simp only at ee
    split at ee
    · rename_i n l hl
      obtain ⟨j, e4, ee⟩ := bindE ee
      cases ee
      refine ⟨B, Hf, Γ, [], s1, Γ1, R, e1, fun v fp Hf1 H1 R1 => ?_⟩
      obtain ⟨Hf2, _, R2⟩ := R1.settle e2
      refine ⟨B, Hf2, Γ2, _, .bor i, Γ2, R2, by simp only [mVar, ho'], fun w fp2 Hf3 H3 R3 => ⟨B, Hf3, Γ2, _, _, Γ3, R3, e3, fun u fp3 Hf4 H4 ⟨f4, R4⟩ => ?_⟩⟩
      have q3 := (R4.pend _ List.mem_cons_self).2
      have q2 := (R4.pop.pend _ List.mem_cons_self).2
      have q1 := (R4.pop.pop.pend _ List.mem_cons_self).2
      simp only at q2 q1
      cases q3
      obtain ⟨p, xs, rfl, h2, h3, h4, h5⟩ := own_lst R4 hl q2
      refine ⟨p, xs, _, j, rfl, rfl, h4, by rw [h5.length]; exact e4, ?_⟩
      exact kk σ Hf4 _ (Stay.refl _ _) ⟨f4, (writeL R4 hl q2 (h5.set q1 j)).pop.pop.pop⟩
    · cases ee
  · cases ee
/-- x[i] op= e of ints -/
def mAugIx (i : Nat) (g : Int → Int → Int) (mi me : M) : MS := fun Γ => match Γ[i]? with
  | some (.own _) => (mi Γ).bind fun t => match t.1, t.2[i]? with
    | .d (.int n), some (.own (.lst l)) => (atI l n).bind fun z => (me t.2).bind fun u => match z, u.1, u.2[i]? with
      | .int z, .d (.int y), some (.own (.lst l2)) => (ixN l2.length n).bind fun j => some (.nx, u.2.set i (.own (.lst (l2.set j (.int (g z y))))))
      | _, _, _ => none
    | _, _ => none
  | _ => none
theorem get_list {X : Cx} : PGet X (rIxL X.K) := fun pins s σ H o i ov iv Q I ro ri h => by
  obtain ⟨p, xs, i, z, rfl, rfl, hq, he, q⟩ := h
  cases ro
  obtain ⟨t, rfl⟩ := ri
  obtain ⟨its, r, pl, hz⟩ := I.list hq
  obtain ⟨j, h1, h2, h3, h4, h5⟩ := atI_get he
  obtain ⟨w, ew, rw'⟩ := r.get h2
  have hl := r.length
  have hn := line63
  have fin : EP X pins σ Q w s := ⟨z, H, I, rw', q⟩
  by_cases h0 : 0 ≤ i
  · have hj : i.toNat = j := by
      rw [seqIndex_of h0 h5] at h1
      exact Option.some.inj h1
    exact wpAny_getItem_list pl.isList h0 (by omega) (by rw [hj]; simpa using ew) fin
  · have hj : (i + (its.toArray.size : Int)).toNat = j := by
      rw [seqIndex_neg (by omega) h4] at h1
      rw [List.size_toArray, ← hl]
      exact Option.some.inj h1
    exact wpAny_getItem_list_neg pl.isList (by omega) (by rw [List.size_toArray] <;> omega) (by omega) (by rw [hj]; simpa using ew) fin
theorem ds_augIx (i : Nat) {x : Str} {np sp : Pos} {op : Operator} {gf : Int → Int → Int} (hp : PIp X op (ipI gf)) (ho : PE X (.Name x np) (tM X.K (mVar i))) (hi : PE X a (tM X.K ma)) (hv : PE X e (tM X.K me))
    (ha : ∀ ov iv new, augStore a ov iv new = (do holding [new, ov, iv] (setItem ov iv new); release [new, ov, iv] []; pure .next) := by intros; rfl) :
    PS X (.AugAssign (.Subscript (.Name x np) a sp) op e pos) (tS X.K [] (mAugIx i gf ma me)) := PS.imp (ps_augS ho hi get_list hv hp set_list ha) fun D σ H h => by
  obtain ⟨B, Hf, Γ, fl, Γ', R, ee, kk⟩ := h
  unfold mAugIx at ee
  split at ee
  · rename_i o ho'
    obtain ⟨⟨s3, Γ3⟩, e3, ee⟩ := bindE ee
    simp only at ee
    split at ee
    · rename_i n l hl
      obtain ⟨z, e4, ee⟩ := bindE ee
      obtain ⟨⟨s5, Γ5⟩, e5, ee⟩ := bindE ee
      simp only at ee
      split at ee
      · rename_i z y l2 hl2 _
        obtain ⟨j, e6, ee⟩ := bindE ee
        cases ee
        refine ⟨B, Hf, Γ, [], .bor i, Γ, R, by simp only [mVar, ho'], fun w fp2 Hf3 H3 R3 => ⟨B, Hf3, Γ, _, _, Γ3, R3, e3, fun u fp3 Hf4 H4 ⟨f4, R4⟩ => ?_⟩⟩
        have q3 := (R4.pend _ List.mem_cons_self).2
        have q2 := (R4.pop.pend _ List.mem_cons_self).2
        simp only at q2
        cases q3
        obtain ⟨p, xs, rfl, h2, h3, h4, h5⟩ := own_lst R4 hl q2
        obtain ⟨zv, ez, dz⟩ := h5.at e4
        cases dz
        refine ⟨p, xs, _, _, rfl, rfl, .inl (.inl h4), ez, B, Hf4, Γ3, _, _, Γ5, ⟨f4, R4⟩, e5, fun t fp5 Hf5 H5 ⟨f5, R5⟩ => ?_⟩
        have q5 := (R5.pend _ List.mem_cons_self).2
        cases q5
        refine ⟨_, _, rfl, rfl, ?_⟩
        obtain ⟨p', xs', e7, h2', h3', h4', h5'⟩ := own_lst R5 hl2 q2
        cases e7
        refine ⟨p, xs', _, j, rfl, rfl, h4', by rw [h5'.length]; exact e6, ?_⟩
        exact kk σ Hf5 _ (Stay.refl _ _) ⟨f5, (writeL R5 hl2 q2 (h5'.set (.int _) j)).pop.pop.pop⟩
      · cases ee
    · cases ee
  · cases ee
/-! methods of the frame's lists -/
def mApp (i : Nat) (me : M) : M := fun Γ => match Γ[i]? with
  | some (.own (.lst _)) => (me Γ).bind fun p => (settle p.2 p.1).bind fun q => match q.2[i]? with
    | some (.own (.lst l)) => if l.length < lim then some (.d .none, q.2.set i (.own (.lst (l ++ [q.1])))) else none
    | _ => none
  | _ => none
theorem d_app (i : Nat) {x : Str} {np ap : Pos} (ho : PE X (.Name x np) (tM X.K (mVar i))) (hv : PE X e (tM X.K me)) (hs : starEach [e] X.env = (false, eval e X.env) :: starEach [] X.env := by rfl) (hbase : attributeBase (.Name x np) "append" X.env (eval (.Name x np) X.env) = eval (.Name x np) X.env := by rfl)
    (hfew : ((backTo pos (starEach [e] X.env)).all (fun x => !x.1) && (backToKw pos (keywordEach [] X.env)).all (fun x => x.1.isSome) && decide (([e] : List Expr).length + ([] : List Keyword).length + (if ([] : List Keyword).isEmpty then 0 else 1) < 30)) = true := by rfl)
    (hline : (ap.endLine == pos.line) = true := by rfl) :
    PE X (.Call (.Attribute (.Name x np) "append" ap) [e] [] pos) (tM X.K (mApp i me)) :=
  PE.imp (pe_bm PySem.F.plainAttrs_list PySem.F.slot_list_append PySem.F.type_list_append mt_append ho (pa_cons hv pa_nil hs) hbase hfew hline hs) fun σ H Q h => by
  obtain ⟨B, Hf, Γ, ps, r, Γ', ⟨f, R⟩, ee, kk⟩ := h
  unfold mApp at ee
  split at ee
  · rename_i l0 hl0
    obtain ⟨⟨s1, Γ1⟩, e1, ee⟩ := bindE ee
    obtain ⟨⟨d, Γ2⟩, e2, ee⟩ := bindE ee
    simp only at ee
    split at ee
    · rename_i l hl
      split at ee
      · rename_i hsz
        cases ee
        refine ⟨B, Hf, Γ, ps, .bor i, Γ, ⟨f, R⟩, by simp only [mVar, hl0], fun w fp2 Hf3 H3 ⟨f3, R3⟩ => ?_⟩
        have q2 := (R3.pend _ List.mem_cons_self).2
        simp only at q2
        obtain ⟨p, xs, rfl, h2, h3, h4, h5⟩ := own_lst R3 hl0 q2
        refine ⟨.inl ⟨rfl, xs, .inl (.inl h4)⟩, B, Hf3, Γ, _, s1, Γ1, ⟨f3, R3⟩, e1, fun y fp Hf4 H4 R4 => ?_⟩
        obtain ⟨Hf5, _, f5, R5⟩ := R4.settle e2
        have dy := (R5.pend _ List.mem_cons_self).2
        obtain ⟨p', xs', e7, h2', h3', h4', h5'⟩ := own_lst R5 hl q2
        cases e7
        refine ⟨p, xs', y, rfl, rfl, h4', by rw [h5'.length]; exact Nat.lt_of_lt_of_le hsz lim_le, ?_⟩
        exact kk .non [] Hf5 _ ⟨f5, ((writeL R5 hl q2 (h5'.append (.cons dy .nil))).pop.pop).pushD .non⟩
      · cases ee
    · cases ee
  · cases ee
def mExt (i : Nat) (me : M) : M := fun Γ => match Γ[i]? with
  | some (.own (.lst _)) => (me Γ).bind fun p => match p.1, p.2[i]? with
    | .own (.lst l2), some (.own (.lst l)) => if l.length + l2.length ≤ lim then some (.d .none, p.2.set i (.own (.lst (l ++ l2)))) else none
    | _, _ => none
  | _ => none
theorem d_ext (i : Nat) {x : Str} {np ap : Pos} (ho : PE X (.Name x np) (tM X.K (mVar i))) (hv : PE X e (tM X.K me)) (hs : starEach [e] X.env = (false, eval e X.env) :: starEach [] X.env := by rfl) (hbase : attributeBase (.Name x np) "extend" X.env (eval (.Name x np) X.env) = eval (.Name x np) X.env := by rfl)
    (hfew : ((backTo pos (starEach [e] X.env)).all (fun x => !x.1) && (backToKw pos (keywordEach [] X.env)).all (fun x => x.1.isSome) && decide (([e] : List Expr).length + ([] : List Keyword).length + (if ([] : List Keyword).isEmpty then 0 else 1) < 30)) = true := by rfl)
    (hline : (ap.endLine == pos.line) = true := by rfl) :
    PE X (.Call (.Attribute (.Name x np) "extend" ap) [e] [] pos) (tM X.K (mExt i me)) :=
  PE.imp (pe_bm PySem.F.plainAttrs_list PySem.F.slot_list_extend PySem.F.type_list_extend mt_extend ho (pa_cons hv pa_nil hs) hbase hfew hline hs) fun σ H Q h => by
  obtain ⟨B, Hf, Γ, ps, r, Γ', ⟨f, R⟩, ee, kk⟩ := h
  unfold mExt at ee
  split at ee
  · rename_i l0 hl0
    obtain ⟨⟨s1, Γ1⟩, e1, ee⟩ := bindE ee
    simp only at ee
    split at ee
    · rename_i l2 l hl
      split at ee
      · rename_i hsz
        cases ee
        refine ⟨B, Hf, Γ, ps, .bor i, Γ, ⟨f, R⟩, by simp only [mVar, hl0], fun w fp2 Hf3 H3 ⟨f3, R3⟩ => ?_⟩
        have q2 := (R3.pend _ List.mem_cons_self).2
        simp only at q2
        obtain ⟨p, xs, rfl, h2, h3, h4, h5⟩ := own_lst R3 hl0 q2
        refine ⟨.inl ⟨rfl, xs, .inl (.inl h4)⟩, B, Hf3, Γ, _, _, Γ1, ⟨f3, R3⟩, e1, fun y fp Hf4 H4 ⟨f4, R4⟩ => ?_⟩
        obtain ⟨q, rfl, efp, hq1, zs, hq2, dz⟩ : ∃ a, y = .ref a ∧ fp = [a] ∧ Hf4 a = none ∧ ∃ xs, H4 a = some (.lst xs) ∧ Dens X.K Hf4 xs l2 := R4.pend _ List.mem_cons_self
        obtain ⟨p', xs', e7, h2', h3', h4', h5'⟩ := own_lst R4 hl q2
        cases e7
        refine ⟨p, q, xs', zs, rfl, rfl, h4', hq2, by rw [h5'.length, dz.length]; exact Nat.le_trans hsz lim_le, ?_⟩
        exact kk .non [] Hf4 _ ⟨f4, ((writeL R4 hl q2 (h5'.append dz)).pop.pop).pushD .non⟩
      · cases ee
    · cases ee
  · cases ee
def mPop (i : Nat) : M := fun Γ => match Γ[i]? with
  | some (.own (.lst l)) => (l[l.length - 1]?).bind fun d => some (.d d, Γ.set i (.own (.lst l.dropLast)))
  | _ => none
theorem d_pop (i : Nat) {x : Str} {np ap : Pos} (ho : PE X (.Name x np) (tM X.K (mVar i))) (hbase : attributeBase (.Name x np) "pop" X.env (eval (.Name x np) X.env) = eval (.Name x np) X.env := by rfl) (hline : (ap.endLine == pos.line) = true := by rfl) : PE X (.Call (.Attribute (.Name x np) "pop" ap) [] [] pos) (tM X.K (mPop i)) :=
  PE.imp (pe_bm0 PySem.F.plainAttrs_list PySem.F.slot_list_pop PySem.F.type_list_pop mt_pop ho hbase hline) fun σ H Q h => by
  obtain ⟨B, Hf, Γ, ps, r, Γ', ⟨f, R⟩, ee, kk⟩ := h
  unfold mPop at ee
  split at ee
  · rename_i l hl
    obtain ⟨d, e1, ee⟩ := bindE ee
    cases ee
    refine ⟨B, Hf, Γ, ps, .bor i, Γ, ⟨f, R⟩, by simp only [mVar, hl], fun w fp2 Hf3 H3 ⟨f3, R3⟩ => ?_⟩
    have q2 := (R3.pend _ List.mem_cons_self).2
    simp only at q2
    obtain ⟨p, xs, rfl, h2, h3, h4, h5⟩ := own_lst R3 hl q2
    rw [← h5.length] at e1
    obtain ⟨v, ev, dv⟩ := h5.getD e1
    refine ⟨.inl ⟨rfl, xs, .inl (.inl h4)⟩, p, xs, v, rfl, rfl, h4, ev, ?_⟩
    exact kk v [] Hf3 _ ⟨f3, ((writeL R3 hl q2 h5.dropLast).pop).pushD dv⟩
  · cases ee
end
end DL

set_option Elab.async false
set_option linter.all false
set_option maxRecDepth 100000
set_option maxHeartbeats 4000000
namespace DL
open PySem L2
variable [TabsC]
def fuel : Nat := 100000000
/-! ### defs of a text -/
section
variable (P : Program) (w : World) (K : PySem.W.Frag) (mg : Str → Option Value) (base : Heap)
/-- the def named x does what F says, within k levels -/
def DefOk (k : Nat) (x : Str) (n : Nat) (F : FS) : Prop :=
  ∃ (f : Addr) (fd : FuncData) (ps : List Str), ps.length = n ∧ FnOk P w K mg base CX0 k f fd ps (spF K n F) ∧ mg x = some (.ref f) ∧ PySem.W.keepIn K (.ref f) = true ∧ Binds K fd ps []
end
section
variable {P : Program} {w : World} {K : PySem.W.Frag} {mg : Str → Option Value} {base : Heap}
theorem okMD {x qual : Str} {params : Arguments} {body : List Stmt} {scope : Scope} {f : Addr} {fd : FuncData} {N ps : List Str} {k : Nat} {W : List Nat} {m : MS} (F : L2.FunD K x qual params body scope [] [] f fd) (S : FnScope N ps scope) (hm : mg x = some (.ref f))
    (hba : ∀ (kV doc pm : Value) (an : Option Addr) (cdv ct : Value) (us : List Value), us.length = ps.length → bindArgs (PySem.W.fnOf x qual params body scope .none kV doc pm an cdv ct) ⟨us, []⟩ = pure (ps.zip us))
    (hb : ∀ (cdv : Value) (A : Around) (outer : List PySem.Env) (s : Shared) (H : Hp) (E : XK), Cok k (cxOf CX0 P w K mg base N qual scope f cdv A outer s H E).nox →
      PSs (cxOf CX0 P w K mg base N qual scope f cdv A outer s H E).nox body (tS K W m)) : DefOk P w K mg base (k + 1) x ps.length (runF ps.length N.length W m) := by
  refine ⟨f, fd, ps, rfl, ?_, hm, F.kp, F.bindsN hba⟩
  refine F.ok S (fun vs H Q E h => h.1) fun cdv A outer s H vs Q E hr h => ⟨tS K W m, (hb cdv A outer s H E ⟨rfl, hr, S.nd⟩).nox, run_of rfl ?_ h⟩
  have := congrArg List.length S.pre
  rw [List.length_take] at this
  omega
theorem DefOk.le {x : Str} {k n : Nat} {F G : FS} (h : DefOk P w K mg base k x n F) (le : ∀ args r, G args = some r → F args = some r) : DefOk P w K mg base k x n G := by
  obtain ⟨f, fd, ps, h1, h2, h3⟩ := h
  exact ⟨f, fd, ps, h1, DL.FnOk.le h2 le, h3⟩
theorem DefOk.bot {x qual : Str} {params : Arguments} {body : List Stmt} {scope : Scope} {f : Addr} {fd : FuncData} {ps : List Str} {j : Nat} (F : L2.FunD K x qual params body scope [] [] f fd) (hm : mg x = some (.ref f))
    (hba : ∀ (kV doc pm : Value) (an : Option Addr) (cdv ct : Value) (us : List Value), us.length = ps.length → bindArgs (PySem.W.fnOf x qual params body scope .none kV doc pm an cdv ct) ⟨us, []⟩ = pure (ps.zip us)) :
    DefOk P w K mg base j x ps.length fun _ => none := ⟨f, fd, ps, rfl, DL.FnOk.bot, hm, F.kp, F.bindsN hba⟩
end
section
variable {X : Cx} {K : PySem.W.Frag} {a b c e tg : Expr} {ma mb mc : M} {mt mu : MT} {md : MD} {pos p : Pos} {j k n : Nat} {es : List Expr} {W W2 : List Nat} {g : MG} {gs : MGs} {x : Str} {F : FS} {mr : MA}
theorem d_callD (G : DefOk X.prog X.w X.K X.mg X.base j x n F) (c : Cok k X) (hj : j ≤ k) (ha : PA X (a :: es) (tAr X.K mr))
    (hg : Gl X x := by rfl) (hdb : (x == ("__debug__" : Str)) = false := by decide) (he : starEach (a :: es) X.env = (false, eval a X.env) :: starEach es X.env := by rfl) (hpl : (backTo pos (starEach es X.env)).any (·.1) = false := by rfl) :
    PE X (.Call (.Name x p) (a :: es) [] pos) (tM X.K (mCall n F mr)) := by
  obtain ⟨f, fd, ps, h1, h2, h3, h4, h5⟩ := G
  exact d_call h2 c hj h3 h4 h5 ha hg hdb he hpl
theorem d_callD0 (G : DefOk X.prog X.w X.K X.mg X.base j x 0 F) (c : Cok k X) (hj : j ≤ k)
    (hg : Gl X x := by rfl) (hdb : (x == ("__debug__" : Str)) = false := by decide) : PE X (.Call (.Name x p) [] [] pos) (tM X.K (mCall 0 F mA0)) := by
  obtain ⟨f, fd, ps, h1, h2, h3, h4, h5⟩ := G
  cases List.length_eq_zero_iff.mp h1
  exact d_call0 h2 c hj h3 h4 h5 hg hdb
theorem dg_w (h : PG X tg (tG X.K W g)) (hw : (W.all fun i => decide (i ∈ W2)) = true) : PG X tg (tG X.K W2 g) := PG.imp h fun v σ H Q h => by
  obtain ⟨B, Hf, Γ, ps, s, fp, Γ', R, nb, e, k⟩ := h
  exact ⟨B, Hf, Γ, ps, s, fp, Γ', R, nb, e, fun σ' Hf' l st ex R' => k σ' Hf' l (st.mono fun i hi => of_decide_eq_true (List.all_eq_true.mp hw i hi)) ex R'⟩
theorem dss_w {body : List Stmt} {m : MS} (h : PSs X body (tS X.K W m)) (hw : (W.all fun i => decide (i ∈ W2)) = true) : PSs X body (tS X.K W2 m) := PSs.imp h fun D σ H h => by
  obtain ⟨B, Hf, Γ, fl, Γ', R, e, k⟩ := h
  have up : ∀ {σ σ' : St}, Stay W σ σ' → Stay W2 σ σ' := fun h => h.mono fun i hi => of_decide_eq_true (List.all_eq_true.mp hw i hi)
  refine ⟨B, Hf, Γ, fl, Γ', R, e, ?_⟩
  cases fl with
  | nx => exact fun σ' Hf' H' s R => k σ' Hf' H' (up s) R
  | ret r => exact fun σ' v fp Hf' H' s R => k σ' v fp Hf' H' (up s) R
  | bk => exact fun σ' Hf' H' s R => k σ' Hf' H' (up s) R
  | ct => exact fun σ' Hf' H' s R => k σ' Hf' H' (up s) R
theorem base2 {B : Base} {Hf H : Hp} {σ : St} {Γ : Env} {f : Nat → List Addr} {ps : List Pend} (R : ReachF K B Hf H σ Γ f ps) : ReachF K ⟨Hf, H, fun a => (∃ i, a ∈ f i) ∨ ∃ p ∈ ps, a ∈ p.fp⟩ Hf H σ Γ f ps :=
  ⟨R.len, R.sub, R.slot, R.out, R.disj, R.pend, R.pdis, R.psl, Evl.Ex.refl _, fun _ _ h _ _ => h, fun _ o h n => ⟨o, h, n⟩, fun _ h => .inl h, fun i a h => .inr (.inl ⟨i, h⟩), fun p hp a h => .inr (.inr ⟨p, hp, h⟩), R.tab⟩
theorem trans2 {B : Base} {Hf H Hf' H' : Hp} {σ σ' : St} {Γ Γ' : Env} {f f' : Nat → List Addr} {ps ps' : List Pend} (R : ReachF K B Hf H σ Γ f ps) (R2 : ReachF K ⟨Hf, H, fun a => (∃ i, a ∈ f i) ∨ ∃ p ∈ ps, a ∈ p.fp⟩ Hf' H' σ' Γ' f' ps') : ReachF K B Hf' H' σ' Γ' f' ps' := by
  have bo : ∀ {a}, (NB ⟨Hf, H, fun a => (∃ i, a ∈ f i) ∨ ∃ p ∈ ps, a ∈ p.fp⟩ a ∨ (∃ i, a ∈ f i) ∨ ∃ p ∈ ps, a ∈ p.fp) → NB B a ∨ B.O a := fun {a} h => by
    rcases h with h | ⟨i, h⟩ | ⟨p, hp, h⟩
    · refine .inl fun o h2 h3 => ?_
      obtain ⟨u, h4, h5⟩ := R.dom a o h2 h3
      exact h u h4 h5
    · exact R.own i a h
    · exact R.pown p hp a h
  refine ⟨R2.len, R2.sub, R2.slot, R2.out, R2.disj, R2.pend, R2.pdis, R2.psl, R.ex.trans R2.ex, fun a u h1 h2 h3 => ?_, fun a o h1 h2 => by obtain ⟨u, h3, h4⟩ := R.dom a o h1 h2; exact R2.dom a u h3 h4, fun a h1 => ?_, fun i a ha => bo (R2.own i a ha), fun p hp a ha => bo (R2.pown p hp a ha), R2.tab⟩
  · refine R2.keep a u (R.keep a u h1 h2 h3) (fun z => ?_) h3
    rcases bo (.inr z) with z | z
    · exact absurd h3 (z u h1)
    · exact h2 z
  · rcases R2.new a h1 with z | z
    · exact R.new a z
    · exact .inr (bo z)
/-! ### a, b = x, y -/
def parS : List Nat → List Slot → Env → Option Env
  | [], [], Γ => some Γ
  | i :: is, s :: ss, Γ => (parS is ss Γ).bind fun Γ1 => if i < Γ1.length then some (Γ1.set i s) else none
  | _, _, _ => none
def parV : List Nat → List V → St → St
  | i :: is, v :: vs, σ => (parV is vs σ).set i (some v)
  | _, _, σ => σ
theorem par_all {B : Base} {Hf H : Hp} {σ : St} : ∀ {vs : List V} {ss : List Slot} {qs : List Pend} {is : List Nat} {Γ Γ' : Env} {ps : List Pend}, HeldL vs ss qs → Reach K B Hf H σ Γ (qs ++ ps) → NoBor ps → ss.all keepable = true → parS is ss Γ = some Γ' →
    Reach K B Hf H (parV is vs σ) Γ' ps ∧ (∀ i, i ∉ is → (parV is vs σ)[i]? = σ[i]?) ∧ is.length = vs.length
  | _, _, _, [], _, _, _, .nil, R, _, _, e => by cases e; exact ⟨R, fun _ _ => rfl, rfl⟩
  | _, _, _, _ :: _, _, _, _, .nil, _, _, _, e => by cases e
  | _, _, _, [], _, _, _, .cons h, _, _, _, e => by cases e
  | _, _, _, i :: is, Γ, Γ', ps, .cons (v := v) (s := s) (fp := fp) h, R, nb, ha, e => by
    rw [List.all_cons, Bool.and_eq_true] at ha
    obtain ⟨Γ1, e1, e2⟩ := bindE e
    split at e2
    · rename_i hl
      cases e2
      rw [List.append_assoc] at R
      have nb1 : NoBor (⟨v, s, fp⟩ :: ps) := fun p hp j => by
        rcases List.mem_cons.mp hp with rfl | hp
        · intro z
          simp only at z
          rw [z] at ha
          cases ha.1
        · exact nb p hp j
      obtain ⟨⟨f, R1⟩, st, ln⟩ := par_all h R nb1 ha.2 e1
      refine ⟨⟨_, R1.store hl ha.1 fun p hp j h => absurd h (nb p hp j)⟩, fun j hj => ?_, by simp [ln]⟩
      rw [parV, List.getElem?_set_ne (fun z => hj (by simp [z])), st j (fun z => hj (List.mem_cons_of_mem _ z))]
    · cases e2
def mPar (is : List Nat) (ma : MA) : MS := fun Γ => (ma Γ).bind fun p => if p.1.all keepable then (parS is p.1 p.2).bind fun Γ' => some (.nx, Γ') else none
theorem par_imp {is : List Nat} {D : Ends} {σ : St} {H : Hp} (h : tS K is (mPar is mr) D σ H) : tAr K mr σ H fun vs H' => vs.length = is.length ∧ D.nx (parV is vs σ) H' := by
  obtain ⟨B, Hf, Γ, fl, Γ', R, e, k⟩ := h
  obtain ⟨⟨ss, Γ1⟩, e1, e⟩ := bindE e
  simp only at e
  split at e
  · rename_i ha
    obtain ⟨Γ2, e2, e⟩ := bindE e
    cases e
    refine ⟨B, Hf, Γ, [], ss, Γ1, R, e1, fun vs qs Hf1 H1 hd R1 => ?_⟩
    obtain ⟨R2, st, ln⟩ := par_all hd R1 NoBor.nil ha e2
    exact ⟨ln.symm, k _ Hf1 H1 (fun i hi => st i hi) R2⟩
  · cases e
theorem ds_par (i j : Nat) {x y : Str} {px py pt : Pos} {kt k2 pt2} (hc : Cok k X) (ha : PA X [a, b] (tAr X.K mr)) (hi : X.N[i]? = some x := by rfl) (hj : X.N[j]? = some y := by rfl) (hij : i ≠ j := by decide)
    (hx : X.env.scope.names.lookup x = some .local := by rfl) (hy : X.env.scope.names.lookup y = some .local := by rfl)
    (hw : swappedStores [.Tuple [.Name x px, .Name y py] kt pt] (.Tuple [a, b] k2 pt2) X.env = pure (some [x, y]) := by rfl)
    (hs : swapsWithSole [.Tuple [.Name x px, .Name y py] kt pt] (.Tuple [a, b] k2 pt2) pos.line X.env = pure false := by rfl) :
    PS X (.Assign [.Tuple [.Name x px, .Name y py] kt pt] (.Tuple [a, b] k2 pt2) pos) (tS X.K [i, j] (mPar [i, j] mr)) :=
  PS.imp (ps_par hc.calm hc.nd hi hj hij hx hy ha hw hs) fun D σ H h => by
    obtain ⟨B, Hf, Γ, ps, r, Γ', R, e, kk⟩ := par_imp h
    refine ⟨B, Hf, Γ, ps, r, Γ', R, e, fun vs qs Hf' H' hd R' => ?_⟩
    obtain ⟨hl, q⟩ := kk vs qs Hf' H' hd R'
    match vs, hl with
    | [v, w], _ => exact ⟨v, w, rfl, by rw [List.set_comm _ _ hij]; exact q⟩
theorem ds_par3 (i j l : Nat) {x y z : Str} {px py pz pt : Pos} {kt k2 pt2} (hc : Cok k X) (ha : PA X [a, b, c] (tAr X.K mr)) (hi : X.N[i]? = some x := by rfl) (hj : X.N[j]? = some y := by rfl) (hl : X.N[l]? = some z := by rfl) (hij : i ≠ j := by decide) (hil : i ≠ l := by decide) (hjl : j ≠ l := by decide)
    (hx : X.env.scope.names.lookup x = some .local := by rfl) (hy : X.env.scope.names.lookup y = some .local := by rfl) (hz : X.env.scope.names.lookup z = some .local := by rfl)
    (hw : swappedStores [.Tuple [.Name x px, .Name y py, .Name z pz] kt pt] (.Tuple [a, b, c] k2 pt2) X.env = pure (some [x, y, z]) := by rfl)
    (hs : swapsWithSole [.Tuple [.Name x px, .Name y py, .Name z pz] kt pt] (.Tuple [a, b, c] k2 pt2) pos.line X.env = pure false := by rfl) :
    PS X (.Assign [.Tuple [.Name x px, .Name y py, .Name z pz] kt pt] (.Tuple [a, b, c] k2 pt2) pos) (tS X.K [i, j, l] (mPar [i, j, l] mr)) :=
  PS.imp (ps_par3 hc.calm hc.nd hi hj hl hij hil hjl hx hy hz ha hw hs) fun D σ H h => by
    obtain ⟨B, Hf, Γ, ps, r, Γ', R, e, kk⟩ := par_imp h
    refine ⟨B, Hf, Γ, ps, r, Γ', R, e, fun vs qs Hf' H' hd R' => ?_⟩
    obtain ⟨hn, q⟩ := kk vs qs Hf' H' hd R'
    match vs, hn with
    | [u, v, w], _ =>
      refine ⟨u, v, w, rfl, ?_⟩
      have e : ((σ.set i (some u)).set j (some v)).set l (some w) = parV [i, j, l] [u, v, w] σ := by
        show _ = ((σ.set l (some w)).set j (some v)).set i (some u)
        rw [List.set_comm _ _ hij, List.set_comm _ _ hil, List.set_comm _ _ hjl]
      rw [e]
      exact q
/-! ### [.. for .. in .. for .. in ..] -/
variable {iter iter1 elt tg1 : Expr} {mi mi1 : MI} {g1 : MG} {me : M}
def lcL2 (g : MG) (mi1 : MI) (g1 : MG) (me : M) (vs vs1 : List Nat) : List Dat → List Dat → Env → Option (List Dat × Env)
  | [], acc, Γ => some (acc, Γ)
  | x :: xs, acc, Γ => (g (.d x) Γ).bind fun Γ1 => (mi1 Γ1).bind fun p => (lcL g1 mYes me vs1 p.1 acc (wipeE p.2 vs1)).bind fun q => lcL2 g mi1 g1 me vs vs1 xs q.1 (wipeE q.2 vs)
def mLc2 (mi : MI) (g : MG) (mi1 : MI) (g1 : MG) (me : M) (vs vs1 : List Nat) : M := fun Γ => (mi Γ).bind fun p => if plainAt p.2 vs then
    (lcL2 g mi1 g1 me vs vs1 p.1 [] (wipeE p.2 vs)).bind fun q => some (.own (.lst q.1), putE q.2 p.2 vs) else none
theorem lc2_imp {vs vs1 : List Nat} {σ : St} {H : Hp} {Q : VK} (hv : ∀ i ∈ vs1, i ∈ vs) (h : tM K (mLc2 mi g mi1 g1 me vs vs1) σ H Q) : tLc2 (tI K mi) (tG K vs g) (tT K mYes) (tI K mi1) (tG K vs1 g1) (tT K mYes) (tM K me) vs vs1 σ H Q := by
  obtain ⟨B, Hf, Γ, ps, r, Γ', R, e, kk⟩ := h
  obtain ⟨⟨items, Γ1⟩, e1, e⟩ := bindE e
  simp only at e
  split at e
  · rename_i hpl
    obtain ⟨⟨res, Γ2⟩, e2, e⟩ := bindE e
    cases e
    refine ⟨B, Hf, Γ, ps, items, Γ1, R, e1, fun J Hf1 H1 ⟨f1, R1⟩ hJ => ?_⟩
    intro D hD
    have RB := R1.base
    obtain ⟨fw, RW⟩ := (RB.newL (ds := []) (xs := []) hD .nil).wiped (by intro p hp j z; simp only [List.mem_singleton] at hp; subst hp; cases z) vs
    refine ⟨fun i j H' => j = items.length - i ∧ i ≤ items.length ∧ ∃ Hf' Γi acc, Reach K ⟨Hf1, H1, fun a => ∃ i, a ∈ f1 i⟩ Hf' H' (wipe σ vs) Γi [⟨.ref D, .own (.lst acc), [D]⟩] ∧ lcL2 g mi1 g1 me vs vs1 (items.drop i) acc Γi = some (res, Γ2),
      ⟨_, rfl, Nat.zero_le _, Hf1, _, [], ⟨fw, RW⟩, e2⟩, ?_⟩
    rintro i j H2 ⟨rfl, hil, Hf2, Γi, acc, ⟨f2, R2⟩, e3⟩
    have nbD : ∀ acc', NoBor [⟨.ref D, .own (.lst acc'), [D]⟩] := fun acc' p hp j z => by simp only [List.mem_singleton] at hp; subst hp; cases z
    by_cases hlt : i < items.length
    · have hx : items[i]? = some items[i] := by simp [hlt]
      obtain ⟨go, yl⟩ := (hJ Hf2 H2 R2.ex R2.sub i).1 _ hx
      rw [List.drop_eq_getElem_cons hlt] at e3
      obtain ⟨Γ3, e4, e3⟩ := bindE e3
      obtain ⟨⟨items1, Γ5⟩, e5, e3⟩ := bindE e3
      obtain ⟨⟨acc6, Γ6⟩, e6, e3⟩ := bindE e3
      refine .inr ⟨go, fun H' => ∃ Hf' Γi acc, Reach K ⟨Hf1, H1, fun a => ∃ i, a ∈ f1 i⟩ Hf' H' (wipe σ vs) Γi [⟨.ref D, .own (.lst acc), [D]⟩] ∧ lcL2 g mi1 g1 me vs vs1 (items.drop (i + 1)) acc Γi = some (res, Γ2), fun H' q => ⟨_, by omega, rfl, hlt, q⟩, fun x H' hy => ?_⟩
      obtain ⟨Hf3, _, R3⟩ := yld_ok ⟨f2, R2⟩ (yl x H' hy)
      refine ⟨_, Hf3, Γi, _, _, [], Γ3, R3, nbD _, e4, fun σ3 Hf4 l3 s3 _ R4 => ⟨?_, ?_⟩⟩
      · rw [wipe_stay l3 s3]
        exact wipe_stay (by rw [wipe_length]) fun j hj => wipe_get hj
      · have ew : wipe σ3 vs = wipe σ vs := by
          rw [wipe_stay l3 s3]
          exact wipe_stay (by rw [wipe_length]) fun j hj => wipe_get hj
        refine ⟨_, Hf4, Γ3, _, true, Γ3, R4, rfl, fun Hf5 H5 R5 => ?_⟩
        simp only [if_true]
        refine ⟨_, Hf5, Γ3, _, items1, Γ5, R5, e5, fun J1 Hf6 H6 ⟨f6, R6⟩ hJ1 => ?_⟩
        have RB6 := base2 R6
        generalize eB6 : (⟨Hf6, H6, fun a => (∃ i, a ∈ f6 i) ∨ ∃ p ∈ [(⟨V.ref D, .own (.lst acc), [D]⟩ : Pend)], a ∈ p.fp⟩ : Base) = B6 at RB6
        have exB6 : B6.Hf = Hf6 := by rw [← eB6]
        refine ⟨fun j k H' => k = items1.length - j ∧ j ≤ items1.length ∧ ∃ Hf' Γj acc', Reach K B6 Hf' H' (wipe σ3 vs1) Γj [⟨.ref D, .own (.lst acc'), [D]⟩] ∧ lcL g1 mYes me vs1 (items1.drop j) acc' Γj = some (acc6, Γ6),
          ⟨_, rfl, Nat.zero_le _, Hf6, _, acc, RB6.wiped (nbD _) vs1, e6⟩, ?_⟩
        rintro j k H7 ⟨rfl, hjl, Hf7, Γj, accj, ⟨f7, R7⟩, e7⟩
        have ex7 : Ex Hf6 Hf7 := exB6 ▸ R7.ex
        by_cases hjt : j < items1.length
        · have hx1 : items1[j]? = some items1[j] := by simp [hjt]
          obtain ⟨go1, yl1⟩ := (hJ1 Hf7 H7 ex7 R7.sub j).1 _ hx1
          rw [List.drop_eq_getElem_cons hjt] at e7
          obtain ⟨Γ8, e8, e7⟩ := bindE e7
          obtain ⟨⟨b9, Γ9⟩, e9, e7⟩ := bindE e7
          cases e9
          simp only [if_true] at e7
          obtain ⟨⟨s10, Γ10⟩, e10, e7⟩ := bindE e7
          obtain ⟨⟨d11, Γ11⟩, e11, e7⟩ := bindE e7
          simp only at e7
          split at e7
          · rename_i hal
            refine .inr ⟨go1, fun H' => ∃ Hf' Γj acc', Reach K B6 Hf' H' (wipe σ3 vs1) Γj [⟨.ref D, .own (.lst acc'), [D]⟩] ∧ lcL g1 mYes me vs1 (items1.drop (j + 1)) acc' Γj = some (acc6, Γ6), fun H' q => ⟨_, by omega, rfl, hjt, q⟩, fun x1 H8 hy1 => ?_⟩
            obtain ⟨Hf8, ex8, R8⟩ := yld_ok ⟨f7, R7⟩ (yl1 x1 H8 hy1)
            refine ⟨_, Hf8, Γj, _, _, [], Γ8, R8, nbD _, e8, fun σ9 Hf9 l9 s9 ex9 R9 => ?_⟩
            have ew9 : wipe σ9 vs1 = wipe σ3 vs1 := by
              rw [wipe_stay l9 s9]
              exact wipe_stay (by rw [wipe_length]) fun j hj => wipe_get hj
            refine ⟨ew9, _, Hf9, Γ8, _, true, Γ8, R9, rfl, fun Hf10 H10 R10 => ?_⟩
            simp only [if_true]
            refine ⟨_, Hf10, Γ8, _, s10, Γ10, R10, e10, fun y fp Hf11 H11 R11 => ?_⟩
            obtain ⟨Hf12, _, f12, R12⟩ := R11.settle e11
            have dy := (R12.pend _ List.mem_cons_self).2
            have R13 := R12.pop
            obtain ⟨a, ea, efp, hfD, accV, hDa, dacc⟩ : ∃ a, V.ref D = .ref a ∧ [D] = [a] ∧ Hf12 a = none ∧ ∃ xs, H11 a = some (.lst xs) ∧ Dens K Hf12 xs accj := (R13.pend _ List.mem_cons_self)
            cases ea
            refine ⟨accV, hDa, by rw [dacc.length]; exact Nat.lt_of_lt_of_le hal lim_le, ?_⟩
            have R14 := R13.writeP (o' := .lst (accj ++ [d11])) (u := .lst (accV ++ [y])) ⟨rfl, hfD, _, upd_same, dacc.append (.cons dy .nil)⟩
            have := R14.wiped (nbD _) vs1
            rw [ew9] at this
            exact ⟨Hf12, _, _, this, e7⟩
          · cases e7
        · have hje : j = items1.length := by omega
          refine .inl ⟨(hJ1 Hf7 H7 ex7 R7.sub j).2 hje, ?_⟩
          rw [hje, List.drop_length] at e7
          cases e7
          subst eB6
          have R8 := (trans2 R6 R7).wiped (nbD _) vs
          have ew8 : wipe (wipe σ3 vs1) vs = wipe σ vs := by
            rw [wipe_stay (σ := σ3) (by rw [wipe_length]) fun j hj => wipe_get fun z => hj (hv j z)]
            exact ew
          rw [ew8] at R8
          exact ⟨Hf7, _, _, R8, e3⟩
    · have hie : i = items.length := by omega
      refine .inl ⟨(hJ Hf2 H2 R2.ex R2.sub i).2 hie, ?_⟩
      rw [hie, List.drop_length] at e3
      cases e3
      have hp : ∀ v ∈ vs, ∃ s, Γ1[v]? = some s ∧ plainS s = true := fun v hv => by
        have := List.all_eq_true.mp hpl v hv
        split at this
        · rename_i s hs; exact ⟨s, hs, this⟩
        · cases this
      obtain ⟨f3, R3⟩ := R2.remap (σ' := σ) (Γ' := putE Γ2 Γ1 vs) (by rw [wipe_length]) (putE_len _ _ _) (nbD _) fun i s h => by
        rcases putE_get h with ⟨q1, q2⟩ | ⟨q1, q2⟩
        · rcases q1 with q1 | q1
          · exact .inl ⟨q2, (wipe_get q1).symm⟩
          · by_cases hi : i ∈ vs
            · obtain ⟨s', hs', _⟩ := hp i hi
              rw [q1] at hs'
              cases hs'
            · exact .inl ⟨q2, (wipe_get hi).symm⟩
        · obtain ⟨s', hs', hpl'⟩ := hp i q1
          rw [q2] at hs'
          cases hs'
          have q := R1.slot i _ q2
          refine .inr ⟨?_, by intro o z; subst z; cases hpl'⟩
          cases s with
          | no => rfl
          | d x => obtain ⟨_, v, q3, q4⟩ := q; exact ⟨rfl, v, q3, q4.mono R2.ex⟩
          | fn a => exact ⟨rfl, q.2⟩
          | own o => cases hpl'
          | bor j => cases hpl'
      have R4 := R1.trans R3 (.inr rfl)
      exact kk (.ref D) [D] Hf2 H2 ⟨f3, R4⟩
  · cases e
end
end DL

set_option Elab.async false
set_option linter.all false
set_option maxRecDepth 100000
set_option maxHeartbeats 4000000
namespace PySem
open PySem.W
theorem dl_zip_nolen : typeLookup (.type "zip") "__len__" = pure none := by rw [typeLookup_type, builtinLookup_eq_fast]; kernel_rfl
theorem dl_zip_nohint : typeLookup (.type "zip") "__length_hint__" = pure none := by rw [typeLookup_type, builtinLookup_eq_fast]; kernel_rfl
section
variable {prog : Program} {w : World} {A : Around} {E : Value → Shared → Prop} {s : Shared} {z TI TO i1 i2 T : Addr} {f : Bool} {oT : Obj} {fp1 fp2 : List Addr} {n1 n2 i : Nat} {P1 P2 : Nat → Value → Prop} {St1 St2 : Nat → Heap → Prop} {a1 a2 : Value}
theorem dl_zip_item0 {Q : Value → Shared → Prop} (S : ZipSep2 z TI TO i1 i2 fp1 fp2) (D1 : Draws prog w A i1 fp1 n1 P1 St1) (D2 : Draws prog w A i2 fp2 n2 P2 St2)
    (hz : IsZipHeld s.heap z TI TO T f) (hT : s.heap.get? T = some oT) (hTI : IsTupOf2 s.heap TI (.ref i1) (.ref i2)) (st1 : St1 i s.heap) (st2 : St2 i s.heap) (hlt1 : i < n1) (hlt2 : i < n2)
    (hQ : ∀ x1 x2 h' tk, P1 i x1 → P2 i x2 → IsZipHeld h' z TI TO T true → St1 (i + 1) h' → St2 (i + 1) h' → IsTupOf2 h' s.heap.objs.size x1 x2 → h'.objs.size = s.heap.objs.size + 1 →
      (∀ c o, c ≠ z → c ≠ TO → c ≠ i1 → c ≠ i2 → s.heap.get? c = some o → h'.get? c = some o) → Q (.ref s.heap.objs.size) { s with heap := h', toks := tk }) :
    wpAny (model prog w) A (Builtin.«zip.__next__» ⟨[.ref z], []⟩) (fun fin s' => ∃ v, fin = .done (.ret v) ∧ Q v s') E s := by
  obtain ⟨hp, g, d, tk0, os⟩ := s
  show wpAny _ _ (field (.ref z) 2 >>= _) _ _ _
  refine wpAny_bind (wpAny_field hz rfl (x := .bool false) rfl ?_)
  show wpAny _ _ (field (.ref z) 3 >>= _) _ _ _
  refine wpAny_bind (wpAny_field hz rfl (x := .ref TI) rfl ?_)
  refine wpAny_bind (wpAny_seqItems hTI rfl ?_)
  show wpAny _ _ (Builtin.SmallTypes.ownedTupleIsFree (.ref z) >>= _) _ _ _
  refine wpAny_bind (wpAny_tupleHeld_zip hz hT fun h₁ hz₁ hs₁ => ?_)
  simp only [Bool.false_eq_true, if_false]
  replace hs₁ : Heap.SameBut z hp h₁ := hs₁
  refine wpAny_bind ?_
  rw [← Array.forIn_toList]
  simp only [List.forIn_cons, List.forIn_nil]
  refine wpAny_bind (wpAny_bind (wpAny_holding ?_))
  show wpAny _ _ (Builtin.SmallTypes.nextOf (.ref i1) >>= _) _ _ ⟨h₁, g, d, tk0, os⟩
  refine wpAny_bind (D1.item i _ _ _ hlt1 (D1.over st1 hs₁ S.zf1) fun x1 p1 tk1 hx1 sn1 hp1 => wpAny_pure ?_)
  replace hp1 : Heap.SameBut i1 h₁ p1 := hp1
  refine wpAny_pure ?_
  refine wpAny_bind (wpAny_bind (wpAny_holding ?_))
  show wpAny _ _ (Builtin.SmallTypes.nextOf (.ref i2) >>= _) _ _ ⟨p1, g, d, tk1, os⟩
  refine wpAny_bind (D2.item i _ _ _ hlt2 (D2.over (D2.over st2 hs₁ S.zf2) hp1 S.sep1_2) fun x2 p2 tk2 hx2 sn2 hp2 => wpAny_pure ?_)
  replace hp2 : Heap.SameBut i2 p1 p2 := hp2
  refine wpAny_pure (wpAny_pure ?_)
  show wpAny _ _ (newTuple [x1, x2] >>= _) _ _ ⟨p2, g, d, tk2, os⟩
  refine wpAny_bind (wpAny_newTuple ?_)
  have hsz : p2.objs.size = hp.objs.size := by rw [hp2.1, hp1.1, hs₁.1]
  have hzz : IsZipHeld p2 z TI TO T true := hp2.extBut _ _ S.zi2 (hp1.extBut _ _ S.zi1 hz₁)
  have hkk : ∀ c o, c ≠ z → c ≠ TO → c ≠ i1 → c ≠ i2 → hp.get? c = some o → p2.get? c = some o := fun c o cz cT c1 c2 e => hp2.extBut _ _ c2 (hp1.extBut _ _ c1 (hs₁.extBut _ _ cz e))
  have hj1 : St1 (i + 1) p2 := D1.over sn1 hp2 S.sep2_1
  refine wpAny_pure ⟨_, rfl, ?_⟩
  show Q (.ref p2.objs.size) _
  have hT8 : IsTupOf2 (p2.push { cls := .type "tuple", data := .seq #[x1, x2] }) p2.objs.size x1 x2 := Heap.get?_push_size _ rfl
  have hz8 : (p2.push { cls := .type "tuple", data := .seq #[x1, x2] }).objs.size = p2.objs.size + 1 := Heap.size_push ..
  rw [hsz] at hT8 hz8 ⊢
  exact hQ x1 x2 _ tk2 hx1 hx2 (Heap.get?_push_of_some _ hzz) (D1.frame _ _ _ hj1 fun b hb o e => Heap.get?_push_of_some _ e) (D2.frame _ _ _ sn2 fun b hb o e => Heap.get?_push_of_some _ e) hT8 hz8
    fun c o cz cT c1 c2 e => Heap.get?_push_of_some _ (hkk c o cz cT c1 c2 e)
theorem dl_zip_end0 {Q : Fin → Shared → Prop} (S : ZipSep2 z TI TO i1 i2 fp1 fp2) (D1 : Draws prog w A i1 fp1 n1 P1 St1) (D2 : Draws prog w A i2 fp2 n2 P2 St2)
    (hz : IsZipHeld s.heap z TI TO T f) (hT : s.heap.get? T = some oT) (hTI : IsTupOf2 s.heap TI (.ref i1) (.ref i2)) (st1 : St1 i s.heap) (st2 : St2 i s.heap) (hle1 : i ≤ n1) (hle2 : i ≤ n2) (hend : i = n1 ∨ i = n2)
    (hE : ∀ h' tk e, (∀ c o, c ≠ z → c ≠ TO → c ≠ i1 → c ≠ i2 → s.heap.get? c = some o → h'.get? c = some o) → (∃ o, h'.get? e = some o ∧ o.cls = .type "StopIteration") → E (.ref e) { s with heap := h', toks := tk }) :
    wpAny (model prog w) A (Builtin.«zip.__next__» ⟨[.ref z], []⟩) Q E s := by
  obtain ⟨hp, g, d, tk0, os⟩ := s
  show wpAny _ _ (field (.ref z) 2 >>= _) _ _ _
  refine wpAny_bind (wpAny_field hz rfl (x := .bool false) rfl ?_)
  show wpAny _ _ (field (.ref z) 3 >>= _) _ _ _
  refine wpAny_bind (wpAny_field hz rfl (x := .ref TI) rfl ?_)
  refine wpAny_bind (wpAny_seqItems hTI rfl ?_)
  show wpAny _ _ (Builtin.SmallTypes.ownedTupleIsFree (.ref z) >>= _) _ _ _
  refine wpAny_bind (wpAny_tupleHeld_zip hz hT fun h₁ hz₁ hs₁ => ?_)
  simp only [Bool.false_eq_true, if_false]
  replace hs₁ : Heap.SameBut z hp h₁ := hs₁
  refine wpAny_bind ?_
  rw [← Array.forIn_toList]
  simp only [List.forIn_cons, List.forIn_nil]
  refine wpAny_bind (wpAny_bind (wpAny_holding ?_))
  show wpAny _ _ (Builtin.SmallTypes.nextOf (.ref i1) >>= _) _ _ ⟨h₁, g, d, tk0, os⟩
  by_cases hlt1 : i < n1
  · refine wpAny_bind (D1.item i _ _ _ hlt1 (D1.over st1 hs₁ S.zf1) fun x1 p1 tk1 hx1 sn1 hp1 => wpAny_pure ?_)
    replace hp1 : Heap.SameBut i1 h₁ p1 := hp1
    refine wpAny_pure ?_
    have hi2 : i = n2 := by omega
    refine wpAny_bind (wpAny_bind (wpAny_holding ?_))
    show wpAny _ _ (Builtin.SmallTypes.nextOf (.ref i2) >>= _) _ _ ⟨p1, g, d, tk1, os⟩
    refine wpAny_bind (D2.done ⟨p1, g, d, tk1, os⟩ _ _ (by rw [← hi2]; exact D2.over (D2.over st2 hs₁ S.zf2) hp1 S.sep1_2) fun q e hq he => ?_)
    exact hE q tk1 e (fun c o cz cT c1 c2 x => hq _ _ c2 (hp1.extBut _ _ c1 (hs₁.extBut _ _ cz x))) he
  · have hi1 : i = n1 := by omega
    refine wpAny_bind (D1.done ⟨h₁, g, d, tk0, os⟩ _ _ (by rw [← hi1]; exact D1.over st1 hs₁ S.zf1) fun q e hq he => ?_)
    exact hE q tk0 e (fun c o cz cT c1 c2 x => hq _ _ c1 (hs₁.extBut _ _ cz x)) he
theorem dl_zip_itemH {Q : Option Value → Shared → Prop} (S : ZipSep2 z TI TO i1 i2 fp1 fp2) (D1 : Draws prog w A.in1 i1 fp1 n1 P1 St1) (D2 : Draws prog w A.in1 i2 fp2 n2 P2 St2)
    (hz : IsZipHeld s.heap z TI TO T f) (hT : s.heap.get? T = some oT) (hTI : IsTupOf2 s.heap TI (.ref i1) (.ref i2)) (st1 : St1 i s.heap) (st2 : St2 i s.heap) (hlt1 : i < n1) (hlt2 : i < n2)
    (hQ : ∀ x1 x2 h' tk, P1 i x1 → P2 i x2 → IsZipHeld h' z TI TO T true → St1 (i + 1) h' → St2 (i + 1) h' → IsTupOf2 h' s.heap.objs.size x1 x2 → h'.objs.size = s.heap.objs.size + 1 →
      (∀ c o, c ≠ z → c ≠ TO → c ≠ i1 → c ≠ i2 → s.heap.get? c = some o → h'.get? c = some o) → Q (some (.ref s.heap.objs.size)) { s with heap := h', toks := tk }) :
    wpAny (model prog w) A (pyNext (.ref z)) Q E s := by
  have hT' : s.TypeIs (.ref z) "zip" := ⟨_, hz, rfl⟩
  unfold pyNext
  exact wpAny_bind (wpAny_attempt (wpAny_callSpecial?_slot (name := Str.ofString "__next__") hT' F.slot_zip_next
    (wpAny_call_entry F.slot_zip_next hT' F.entry_zip_next
      (dl_zip_item0 S D1 D2 hz hT hTI st1 st2 hlt1 hlt2 fun x1 x2 h' tk y1 y2 b1 d1 d2 b5 b6 b7 => wpAny_pure (hQ x1 x2 h' tk y1 y2 b1 d1 d2 b5 b6 b7)) (F.args_zip_next_1 _))))
theorem dl_zip_endH {Q : Option Value → Shared → Prop} (S : ZipSep2 z TI TO i1 i2 fp1 fp2) (D1 : Draws prog w A.in1 i1 fp1 n1 P1 St1) (D2 : Draws prog w A.in1 i2 fp2 n2 P2 St2)
    (hz : IsZipHeld s.heap z TI TO T f) (hT : s.heap.get? T = some oT) (hTI : IsTupOf2 s.heap TI (.ref i1) (.ref i2)) (st1 : St1 i s.heap) (st2 : St2 i s.heap) (hle1 : i ≤ n1) (hle2 : i ≤ n2) (hend : i = n1 ∨ i = n2)
    (hQ : ∀ h' tk, (∀ c o, c ≠ z → c ≠ TO → c ≠ i1 → c ≠ i2 → s.heap.get? c = some o → h'.get? c = some o) → Q none { s with heap := h', toks := tk }) : wpAny (model prog w) A (pyNext (.ref z)) Q E s := by
  have hT' : s.TypeIs (.ref z) "zip" := ⟨_, hz, rfl⟩
  unfold pyNext
  refine wpAny_bind (wpAny_attempt (wpAny_callSpecial?_slot (name := Str.ofString "__next__") hT' F.slot_zip_next
    (wpAny_call_entry F.slot_zip_next hT' F.entry_zip_next (dl_zip_end0 S D1 D2 hz hT hTI st1 st2 hle1 hle2 hend fun h' tk e hk he => ?_) (F.args_zip_next_1 _))))
  obtain ⟨o, ho, hc⟩ := he
  refine wpAny_bind (wpAny_isInstance (T := "StopIteration") (b := true) ⟨o, ho, hc⟩ isSubtype_stop ?_)
  exact wpAny_pure (hQ _ _ hk)
/-- a zip between its turns where what it handed out is kept -/
def ZipS (h : Heap) (z TI TO i1 i2 : Addr) : Prop := (IsZip h z TI TO .none ∧ ∃ a b, IsTupOf2 h TO a b) ∨ ∃ T f oT, IsZipHeld h z TI TO T f ∧ h.get? T = some oT ∧ T ≠ z ∧ T ≠ TO ∧ T ≠ i1 ∧ T ≠ i2
theorem ZipS.at {h h' : Heap} (st : ZipS h z TI TO i1 i2) (hz : ∀ o, h.get? z = some o → h'.get? z = some o) (hT : ∀ o, h.get? TO = some o → h'.get? TO = some o) (hk : ∀ b o, h.get? b = some o → ∃ o', h'.get? b = some o') : ZipS h' z TI TO i1 i2 := by
  rcases st with ⟨q1, a, b, q2⟩ | ⟨T, f, oT, q1, q2, q3⟩
  · exact .inl ⟨hz _ q1, a, b, hT _ q2⟩
  · obtain ⟨o', e⟩ := hk T oT q2
    exact .inr ⟨T, f, o', hz _ q1, e, q3⟩
theorem ZipS.lt (st : ZipS s.heap z TI TO i1 i2) : z < s.heap.objs.size := by
  rcases st with ⟨q1, _⟩ | ⟨T, f, oT, q1, _⟩
  · exact Heap.lt_size q1
  · exact Heap.lt_size q1
theorem ZipS.type (st : ZipS s.heap z TI TO i1 i2) : s.TypeIs (.ref z) "zip" := by
  rcases st with ⟨q1, _⟩ | ⟨T, f, oT, q1, _⟩
  · exact ⟨_, q1, rfl⟩
  · exact ⟨_, q1, rfl⟩
theorem dl_zip_item {Q : Option Value → Shared → Prop} (S : ZipSep2 z TI TO i1 i2 fp1 fp2) (D1 : Draws prog w A.in1 i1 fp1 n1 P1 St1) (D2 : Draws prog w A.in1 i2 fp2 n2 P2 St2)
    (hz : ZipS s.heap z TI TO i1 i2) (hTI : IsTupOf2 s.heap TI (.ref i1) (.ref i2)) (st1 : St1 i s.heap) (st2 : St2 i s.heap) (hlt1 : i < n1) (hlt2 : i < n2) (hTOs : TO < s.heap.objs.size)
    (hQ : ∀ x1 x2 h' tk, P1 i x1 → P2 i x2 → ZipS h' z TI TO i1 i2 → IsTupOf2 h' TI (.ref i1) (.ref i2) → St1 (i + 1) h' → St2 (i + 1) h' → IsTupOf2 h' s.heap.objs.size x1 x2 → h'.objs.size = s.heap.objs.size + 1 →
      (∀ c o, c ≠ z → c ≠ TO → c ≠ i1 → c ≠ i2 → s.heap.get? c = some o → h'.get? c = some o) → Q (some (.ref s.heap.objs.size)) { s with heap := h', toks := tk }) :
    wpAny (model prog w) A (pyNext (.ref z)) Q E s := by
  have hzs := hz.lt
  obtain ⟨o1, ho1⟩ := D1.live _ _ st1
  obtain ⟨o2, ho2⟩ := D2.live _ _ st2
  rcases hz with ⟨hz, a, b, hTO⟩ | ⟨T, f, oT, hz, hT, hTz, hTTO, t1, t2⟩
  · exact wpAny_pyNext_zipD2_item S D1 D2 hz hTI hTO st1 st2 hlt1 hlt2 fun x1 x2 h' tk y1 y2 b1 b2 d1 d2 b5 b6 b7 =>
      hQ x1 x2 h' tk y1 y2 (.inr ⟨_, false, _, b1, b5, Nat.ne_of_gt hzs, Nat.ne_of_gt hTOs, Nat.ne_of_gt (Heap.lt_size ho1), Nat.ne_of_gt (Heap.lt_size ho2)⟩) (b7 _ _ S.TIz S.TITO S.TIi1 S.TIi2 hTI) d1 d2 b5 b6 b7
  · exact dl_zip_itemH S D1 D2 hz hT hTI st1 st2 hlt1 hlt2 fun x1 x2 h' tk y1 y2 b1 d1 d2 b5 b6 b7 =>
      hQ x1 x2 h' tk y1 y2 (.inr ⟨T, true, oT, b1, b7 T oT hTz hTTO t1 t2 hT, hTz, hTTO, t1, t2⟩) (b7 _ _ S.TIz S.TITO S.TIi1 S.TIi2 hTI) d1 d2 b5 b6 b7
theorem dl_zip_end {Q : Option Value → Shared → Prop} (S : ZipSep2 z TI TO i1 i2 fp1 fp2) (D1 : Draws prog w A.in1 i1 fp1 n1 P1 St1) (D2 : Draws prog w A.in1 i2 fp2 n2 P2 St2)
    (hz : ZipS s.heap z TI TO i1 i2) (hTI : IsTupOf2 s.heap TI (.ref i1) (.ref i2)) (st1 : St1 i s.heap) (st2 : St2 i s.heap) (hle1 : i ≤ n1) (hle2 : i ≤ n2) (hend : i = n1 ∨ i = n2)
    (hQ : ∀ h' tk, (∀ c o, c ≠ z → c ≠ TO → c ≠ i1 → c ≠ i2 → s.heap.get? c = some o → h'.get? c = some o) → Q none { s with heap := h', toks := tk }) : wpAny (model prog w) A (pyNext (.ref z)) Q E s := by
  rcases hz with ⟨hz, a, b, hTO⟩ | ⟨T, f, oT, hz, hT, hTz, hTTO, t1, t2⟩
  · exact wpAny_pyNext_zipD2_end S D1 D2 hz hTI hTO st1 st2 hle1 hle2 hend hQ
  · exact dl_zip_endH S D1 D2 hz hT hTI st1 st2 hle1 hle2 hend hQ
end
end PySem
namespace L2
open PySem PySem.W
def ZR (S : Addr) : List (V × V) → List V → Hp → (Hp → Prop) → Prop
  | [], _, H, q => q H
  | p :: r, acc, H, q => ∀ T, H T = none → ZR S r (acc ++ [.ref T]) (upd (upd H T (.tup [p.1, p.2])) S (.lst (acc ++ [.ref T]))) q
section
variable {X : Cx} {pins : List (Addr × Obj)} {σ : St} {A : Around} {R : Result → Shared → Prop} {z TI TO i1 i2 S : Addr} {fp1 fp2 : List Addr} {St1 St2 : Nat → Heap → Prop} {xs ys : List V} {its1 its2 : List Value} {q : Hp → Prop} {res : Value}
theorem dl_zip_loop (Sp : ZipSep2 z TI TO i1 i2 fp1 fp2) (D1 : Draws X.prog X.w A.in1.in1 i1 fp1 its1.length (fun i v => its1[i]? = some v) St1) (D2 : Draws X.prog X.w A.in1.in1 i2 fp2 its2.length (fun i v => its2[i]? = some v) St2)
    (r1 : Vals xs its1) (r2 : Vals ys its2) (hS1 : S ∉ fp1) (hS2 : S ∉ fp2) (hST : S ≠ TI) (hn : xs.length ≤ sizeLine) (hR : ∀ H s, Inv X pins σ H s → q H → R (.ok (.ret res)) s) :
    ∀ (k i : Nat) (s : Shared) (H : Hp) (acc : List V), min xs.length ys.length - i = k → i ≤ min xs.length ys.length → Inv X pins σ H s → H S = some (.lst acc) → acc.length = i → ZipS s.heap z TI TO i1 i2 → IsTupOf2 s.heap TI (.ref i1) (.ref i2) →
      St1 i s.heap → St2 i s.heap → TO < s.heap.objs.size → (∀ b ∈ [z, TO, i1, i2], FpOk X pins H b) → ZR S ((xs.zip ys).drop i) acc H q →
      codeAny (model X.prog X.w) A (.builtin "list.extend.loop" ⟨[.ref S, .ref z, res], []⟩) R s := by
  have l1 : xs.length = its1.length := r1.length
  have l2 : ys.length = its2.length := r2.length
  have hne1 : ∀ {H : Hp} {acc : List V} {b : Addr}, H S = some (.lst acc) → FpOk X pins H b → S ≠ b := fun {H acc b} hH hf e => by
    have hh := hf.1
    rw [← e, hH] at hh
    cases hh
  have hne : ∀ {H : Hp} {acc : List V}, H S = some (.lst acc) → (∀ b ∈ [z, TO, i1, i2], FpOk X pins H b) → S ≠ z ∧ S ≠ TO ∧ S ≠ i1 ∧ S ≠ i2 := fun {H acc} hH hf =>
    ⟨hne1 hH (hf z (by simp)), hne1 hH (hf TO (by simp)), hne1 hH (hf i1 (by simp)), hne1 hH (hf i2 (by simp))⟩
  intro k
  induction k with
  | zero =>
    intro i s H acc hk hi I hH hacc hz hTI st1 st2 hTO hf hq
    obtain ⟨e1, e2, e3, e4⟩ := hne hH hf
    refine codeAny_builtin PySem.F.entry_extend_loop ?_
    rw [Around.under_plainId PySem.F.plain_extend_loop _]
    show wpAny _ A.in1 (pyNext (.ref z) >>= _) _ _ s
    refine wpAny_bind (dl_zip_end Sp D1 D2 hz hTI st1 st2 (by omega) (by omega) (by omega) fun h' tk hk' => ?_)
    have I' : Inv X pins σ H { s with heap := h', toks := tk } := I.turnedL (t' := tk) (ch := [z, TO, i1, i2]) (fun b o hb e => hk' b o (fun x => hb (by simp [x])) (fun x => hb (by simp [x])) (fun x => hb (by simp [x])) (fun x => hb (by simp [x])) e) hf
    refine wpAny_pure (hR H _ I' ?_)
    have hd : (xs.zip ys).drop i = [] := List.drop_eq_nil_of_le (by rw [List.length_zip]; omega)
    rw [hd] at hq
    exact hq
  | succ k ih =>
    intro i s H acc hk hi I hH hacc hz hTI st1 st2 hTO hf hq
    obtain ⟨e1, e2, e3, e4⟩ := hne hH hf
    have hx : i < xs.length := by omega
    have hy : i < ys.length := by omega
    refine codeAny_builtin PySem.F.entry_extend_loop ?_
    rw [Around.under_plainId PySem.F.plain_extend_loop _]
    show wpAny _ A.in1 (pyNext (.ref z) >>= _) _ _ s
    refine wpAny_bind (dl_zip_item Sp D1 D2 hz hTI st1 st2 (by omega) (by omega) hTO fun x1 x2 h' tk p1 p2 hz' hTI' st1' st2' hT hsz hk' => ?_)
    have hTn : H s.heap.objs.size = none := I.hok.fresh (Nat.le_refl _)
    obtain ⟨v1, hv1, rv1⟩ := r1.get (show xs[i]? = some xs[i] by simp [hx])
    obtain ⟨v2, hv2, rv2⟩ := r2.get (show ys[i]? = some ys[i] by simp [hy])
    have ex1 : x1 = v1 := Option.some.inj (p1.symm.trans hv1)
    have ex2 : x2 = v2 := Option.some.inj (p2.symm.trans hv2)
    subst ex1 ex2
    have new : ObjOk X.prog X.w (upd H s.heap.objs.size (.tup [xs[i], ys[i]])) h' s.heap.objs.size (.tup [xs[i], ys[i]]) :=
      ⟨by show 2 ≤ sizeLine; decide, [x1, x2], .cons rv1 (.cons rv2 .nil), ⟨_, hT, rfl, _, rfl⟩⟩
    have I1 : Inv X pins σ (upd H s.heap.objs.size (.tup [xs[i], ys[i]])) { s with heap := h', toks := tk } :=
      I.turnedNew (ch := [z, TO, i1, i2]) (fun b o hb e => hk' b o (fun x => hb (by simp [x])) (fun x => hb (by simp [x])) (fun x => hb (by simp [x])) (fun x => hb (by simp [x])) e) hf (Nat.le_refl _) new
    have hST' : S ≠ s.heap.objs.size := fun e => by rw [← e, hH] at hTn; cases hTn
    have hH1 : (upd H s.heap.objs.size (.tup [xs[i], ys[i]])) S = some (.lst acc) := by rw [upd_ne hST']; exact hH
    obtain ⟨hz0, its, n0, ra, la, ea⟩ := I1.lstM hH1
    have I2 := I1.lset (its' := its ++ [.ref s.heap.objs.size]) (f := (·.push (.ref s.heap.objs.size))) (t' := tk) hH1 ea (by simp) (ra.append (.cons (show RelV (.ref s.heap.objs.size) (.ref s.heap.objs.size) from rfl) .nil)) (by rw [List.length_append, List.length_singleton]; omega)
    have oth : ∀ b o, b ≠ S → h'.get? b = some o → (h'.update S (Obj.mapSeq (·.push (Value.ref s.heap.objs.size)))).get? b = some o := fun b o hb e => (Heap.get?_update_other _ _ (Ne.symm hb)).trans e
    have hSS : (h'.update S (Obj.mapSeq (·.push (Value.ref s.heap.objs.size)))).get? S = _ := Heap.get?_update_self (Obj.mapSeq (·.push (Value.ref s.heap.objs.size))) ea rfl
    show wpAny _ A.in1 (updateSeq S (·.push (.ref s.heap.objs.size)) >>= _) _ _ _
    refine wpAny_bind ?_
    refine wpAny_updateSeq ea rfl (wpAny_pure ⟨plainId_quiet PySem.F.plain_extend_loop _, ih (i + 1) _ _ (acc ++ [.ref s.heap.objs.size]) (by omega) (by omega) I2 upd_same (by simp [hacc]) ?_ (oth _ _ (Ne.symm hST) hTI') ?_ ?_ ?_ (fun b hb => ?_) ?_⟩) (by rw [List.size_toArray, ← la, hacc]; omega) (by
        show (its.toArray.push (Value.ref s.heap.objs.size)).size ≤ sizeLine + 1
        rw [Array.size_push, List.size_toArray, ← la, hacc]; omega)
    · exact hz'.at (fun o e => oth _ _ (Ne.symm e1) e) (fun o e => oth _ _ (Ne.symm e2) e) fun b o e => by
        by_cases hb : b = S
        · rw [hb]; exact ⟨_, hSS⟩
        · exact ⟨_, oth b o hb e⟩
    · exact D1.frame _ _ _ st1' fun b hb o e => oth b o (fun x => hS1 (x ▸ hb)) e
    · exact D2.frame _ _ _ st2' fun b hb o e => oth b o (fun x => hS2 (x ▸ hb)) e
    · have : TO < h'.objs.size := by rw [hsz]; exact Nat.lt_succ_of_lt hTO
      exact Nat.lt_of_lt_of_eq this (by simp [Heap.update])
    · obtain ⟨f0, f1⟩ := hf b hb
      refine ⟨?_, f1⟩
      have hbS : b ≠ S := fun e => by rw [e, hH] at f0; cases f0
      have hbT : b ≠ s.heap.objs.size := fun e => by
        simp only [List.mem_cons, List.not_mem_nil, or_false] at hb
        obtain ⟨o1, ho1⟩ := D1.live _ _ st1
        obtain ⟨o2, ho2⟩ := D2.live _ _ st2
        have nn : ∀ {c : Addr}, c < s.heap.objs.size → b = c → False := fun hl e' => Nat.lt_irrefl _ (show s.heap.objs.size < s.heap.objs.size from by
          rw [← e] at hl ⊢
          rw [e'] at e
          rw [e'] at hl ⊢
          exact hl)
        rcases hb with q' | q' | q' | q'
        · exact nn hz.lt q'
        · exact nn hTO q'
        · exact nn (Heap.lt_size ho1) q'
        · exact nn (Heap.lt_size ho2) q'
      rw [upd_ne hbS, upd_ne hbT]
      exact f0
    · have hd : (xs.zip ys).drop i = (xs[i], ys[i]) :: (xs.zip ys).drop (i + 1) := by
        rw [List.drop_eq_getElem_cons (by rw [List.length_zip]; omega)]
        simp
      rw [hd] at hq
      exact hq _ hTn
theorem dl_zip_init {s : Shared} {H : Hp} {a b : Value} (Sp : ZipSep2 z TI TO i1 i2 fp1 fp2) (D1 : Draws X.prog X.w A.in1.in1 i1 fp1 its1.length (fun i v => its1[i]? = some v) St1)
    (D2 : Draws X.prog X.w A.in1.in1 i2 fp2 its2.length (fun i v => its2[i]? = some v) St2) (r1 : Vals xs its1) (r2 : Vals ys its2) (hn : xs.length ≤ sizeLine) (I0 : Inv X pins σ H s) (hH : H S = some (.lst [])) (hS : s.heap.get? S = some { cls := .type "list", data := .seq #[] })
    (hz : IsZip s.heap z TI TO .none) (hTO : IsTupOf2 s.heap TO a b) (hTI : IsTupOf2 s.heap TI (.ref i1) (.ref i2)) (st1 : St1 0 s.heap) (st2 : St2 0 s.heap) (hS1 : S ∉ fp1) (hS2 : S ∉ fp2) (hSz : S ≠ z) (hSTO : S ≠ TO) (hSTI : S ≠ TI)
    (hf : ∀ b ∈ [z, TO, i1, i2], FpOk X pins H b) (hq : ZR S (xs.zip ys) [] H q) (hR : ∀ H s, Inv X pins σ H s → q H → R (.ok (.ret .none)) s) :
    wpAny (model X.prog X.w) A.in1 (Builtin.«list.__init__» ⟨[.ref S, .ref z], []⟩)
      (fun fin s' => match fin with | .done f => R (.ok f) s' | .again c' => c'.quiet = true ∧ codeAny (model X.prog X.w) A c' R s') (fun e s' => R (.error e) s') s := by
  show wpAny _ _ (do let old ← Builtin.List.listItems (.ref S); Builtin.List.listUpdate (.ref S) (fun _ => #[]); letGo old.toList.reverse; Builtin.List.listExtendWith (.ref S) (.ref z) .none) _ _ _
  refine wpAny_bind ?_
  unfold Builtin.List.listItems
  refine wpAny_bind (wpAny_seqItems hS rfl (wpAny_pure ?_))
  show wpAny _ _ (updateSeq S (fun _ => #[]) >>= fun _ => letGo (#[] : Array Value).toList.reverse >>= fun _ => Builtin.List.listExtendWith (.ref S) (.ref z) .none) _ _ _
  refine wpAny_bind (wpAny_updateSeq hS rfl ?_)
  have hS₂ := Heap.get?_update_self (Obj.mapSeq (fun _ => (#[] : Array Value))) hS rfl
  have I1 := I0.lset (its := []) (its' := []) (f := fun _ => #[]) (ys := []) (t' := s.toks) hH hS rfl .nil (Nat.zero_le _)
  rw [upd_self hH] at I1
  have o1 : ∀ c o, c ≠ S → s.heap.get? c = some o → (s.heap.update S (Obj.mapSeq (fun _ => (#[] : Array Value)))).get? c = some o :=
    fun c o hc e => (Heap.get?_update_other _ _ (Ne.symm hc)).trans e
  refine wpAny_bind (wpAny_letGo ?_)
  generalize hg1 : s.heap.update S (Obj.mapSeq (fun _ => (#[] : Array Value))) = g1 at hS₂ I1 o1 ⊢
  have hz1 : IsZip g1 z TI TO .none := o1 _ _ hSz.symm hz
  have hTy : ({ s with heap := g1 } : Shared).TypeIs (.ref z) "zip" := ⟨_, hz1, rfl⟩
  unfold Builtin.List.listExtendWith
  refine wpAny_bind (wpAny_typeOf hTy ?_)
  have h1 : Builtin.List.listSameRef (.ref S) (.ref z) = false := by simp [Builtin.List.listSameRef, hSz]
  have h2 : (Value.type "zip" == Value.type "list") = false := by decide
  have h3 : (Value.type "zip" == Value.type "tuple") = false := by decide
  simp only [h1, h2, h3, Bool.or_false, Bool.false_eq_true, if_false]
  refine wpAny_bind (wpAny_pyIter_zip hz1 ?_)
  refine wpAny_bind (wpAny_holding ?_)
  unfold Builtin.List.listLengthHint
  refine wpAny_bind (wpAny_specialOf hTy dl_zip_nolen ?_)
  show wpAny _ _ (specialOf (Value.ref z) (Str.ofString "__length_hint__") >>= _) _ _ _
  refine wpAny_bind (wpAny_specialOf hTy dl_zip_nohint ?_)
  refine wpAny_pure ?_
  show wpAny _ _ (rule "list.extend.makes-room" >>= fun _ => Builtin.List.listTouch (.ref S) >>= fun _ => again (.builtin "list.extend.loop" ⟨[.ref S, .ref z, .none], []⟩)) _ _ _
  refine wpAny_bind (wpAny_rule ?_)
  refine wpAny_bind ?_
  show wpAny _ _ (updateSeq S (·.push .none) >>= fun _ => updateSeq S (·.pop)) _ _ _
  refine wpAny_bind (wpAny_updateSeq hS₂ rfl ?_)
  have hS₃ := Heap.get?_update_self (Obj.mapSeq (·.push Value.none)) hS₂ rfl
  refine wpAny_updateSeq (hz := by seq_fits) hS₃ rfl ?_
  have hS₄ := Heap.get?_update_self (Obj.mapSeq (·.pop)) hS₃ rfl
  have I2 := I1.lset (its := []) (its' := [.none]) (f := (·.push .none)) (ys := [.non]) (t' := s.toks) hH hS₂ rfl (.cons rfl .nil) (by show 1 ≤ sizeLine; decide)
  have I3 := I2.lset (its := [.none]) (its' := []) (f := (·.pop)) (ys := []) (t' := s.toks) upd_same hS₃ rfl .nil (Nat.zero_le _)
  rw [upd_upd, upd_self hH] at I3
  have o2 : ∀ c o, c ≠ S → s.heap.get? c = some o → ((g1.update S (Obj.mapSeq (·.push Value.none))).update S (Obj.mapSeq (·.pop))).get? c = some o :=
    fun c o hc e => (Heap.get?_update_other _ _ (Ne.symm hc)).trans ((Heap.get?_update_other _ _ (Ne.symm hc)).trans (o1 c o hc e))
  have hTO3 : IsTupOf2 ((g1.update S (Obj.mapSeq (·.push Value.none))).update S (Obj.mapSeq (·.pop))) TO a b := o2 _ _ hSTO.symm hTO
  exact wpAny_pure ⟨plainId_quiet PySem.F.plain_extend_loop _, dl_zip_loop (q := q) (A := A) Sp D1 D2 r1 r2 hS1 hS2 hSTI hn hR
    _ 0 _ _ [] rfl (Nat.zero_le _) I3 hH rfl (.inl ⟨o2 _ _ hSz.symm hz, a, b, hTO3⟩) (o2 _ _ hSTI.symm hTI)
    (D1.frame 0 _ _ st1 fun b hb o e => o2 b o (fun x => hS1 (x ▸ hb)) e) (D2.frame 0 _ _ st2 fun b hb o e => o2 b o (fun x => hS2 (x ▸ hb)) e)
    (Heap.lt_size hTO3) hf (by simpa using hq)⟩
theorem dl_list_zip {E : Value → Shared → Prop} {Q : VK} {s : Shared} {H : Hp} {a b : Value} (Sp : ZipSep2 z TI TO i1 i2 fp1 fp2) (D1 : ∀ A' : Around, A'.handled = none → Draws X.prog X.w A' i1 fp1 its1.length (fun i v => its1[i]? = some v) St1)
    (D2 : ∀ A' : Around, A'.handled = none → Draws X.prog X.w A' i2 fp2 its2.length (fun i v => its2[i]? = some v) St2) (hh : A.handled = none) (r1 : Vals xs its1) (r2 : Vals ys its2) (hn : xs.length ≤ sizeLine) (I : Inv X pins σ H s)
    (hz : IsZip s.heap z TI TO .none) (hTO : IsTupOf2 s.heap TO a b) (hTI : IsTupOf2 s.heap TI (.ref i1) (.ref i2)) (st1 : St1 0 s.heap) (st2 : St2 0 s.heap) (hfp1 : ∀ b ∈ fp1, b < s.heap.objs.size) (hfp2 : ∀ b ∈ fp2, b < s.heap.objs.size)
    (hf : ∀ b ∈ [z, TO, i1, i2], FpOk X pins H b) (hq : ∀ S, H S = none → ZR S (xs.zip ys) [] (upd H S (.lst [])) (Q (.ref S))) :
    wpAny (model X.prog X.w) A (call (.type "list") [.ref z]) (EP X pins σ Q) E s := by
  have hSn : H s.heap.objs.size = none := I.fresh
  refine callType_codes (Q₁ := fun obj s₁ => obj = .ref s.heap.objs.size ∧ s₁ = { s with heap := s.heap.push { cls := .type "list", data := .seq #[] } }) PySem.F.called_list (PySem.F.typeCall_list_1 _) PySem.F.entry_list_init
    (code_list_new _ ⟨rfl, rfl⟩) fun obj s₁ h₁ => ?_
  obtain ⟨rfl, rfl⟩ := h₁
  have hS : (s.heap.push { cls := .type "list", data := .seq #[] }).get? s.heap.objs.size = some { cls := .type "list", data := .seq #[] } := Heap.get?_push_size _ rfl
  have I0 : Inv X pins σ (upd H s.heap.objs.size (.lst [])) { s with heap := s.heap.push { cls := .type "list", data := .seq #[] } } := I.lnew (its := []) (ys := []) (t' := s.toks) .nil (Nat.zero_le _)
  have hT0 : ∀ c o, s.heap.get? c = some o → s.heap.objs.size ≠ c := fun c o hc => Nat.ne_of_gt (Heap.lt_size hc)
  have up : ∀ c o, s.heap.get? c = some o → (s.heap.push { cls := .type "list", data := .seq #[] }).get? c = some o := fun c o e => Heap.get?_push_of_some _ e
  refine ⟨⟨_, hS, rfl⟩, PySem.F.args_list_init_2 _ _, dl_zip_init (A := A.in1) (q := Q (.ref s.heap.objs.size)) Sp (D1 _ hh) (D2 _ hh) r1 r2 hn I0 upd_same hS (up _ _ hz) (up _ _ hTO) (up _ _ hTI) ((D1 _ hh).frame 0 _ _ st1 fun b hb o e => up b o e) ((D2 _ hh).frame 0 _ _ st2 fun b hb o e => up b o e)
    (fun z => Nat.lt_irrefl _ (hfp1 _ z)) (fun z => Nat.lt_irrefl _ (hfp2 _ z)) (hT0 _ _ hz) (hT0 _ _ hTO) (hT0 _ _ hTI) (fun b hb => ?_) (hq _ hSn) fun H' s' I' q' => ⟨rfl, .ref s.heap.objs.size, H', I', rfl, q'⟩⟩
  obtain ⟨f0, f1⟩ := hf b hb
  refine ⟨?_, f1⟩
  have hbS : b ≠ s.heap.objs.size := by
    simp only [List.mem_cons, List.not_mem_nil, or_false] at hb
    obtain ⟨o1', ho1⟩ := (D1 _ hh).live _ _ st1
    obtain ⟨o2', ho2⟩ := (D2 _ hh).live _ _ st2
    rcases hb with q' | q' | q' | q'
    · rw [q']; exact (hT0 _ _ hz).symm
    · rw [q']; exact (hT0 _ _ hTO).symm
    · rw [q']; exact (hT0 _ _ ho1).symm
    · rw [q']; exact (hT0 _ _ ho2).symm
  rw [upd_ne hbS]
  exact f0
def tListZip (K : PySem.W.Frag) (ta : TA) : TE := fun σ H Q => ta σ H fun vs H1 => ∃ a b xs ys, vs = [.ref a, .ref b] ∧ ((SqL K H1 a xs ∧ SqL K H1 b ys) ∨ (SqT K H1 a xs ∧ SqT K H1 b ys)) ∧ ∀ S, H1 S = none → ZR S (xs.zip ys) [] (upd H1 S (.lst [])) (Q (.ref S))
theorem pe_listZip {e e2 : Expr} {ta : TA} {p p2 q0 pos : Pos} (hc : X.calm = true) (hg : Gl X "list") (hm : X.mg "list" = none) (hg2 : Gl X "zip") (hm2 : X.mg "zip" = none) (ha : PA X [e, e2] ta)
    (na : starEach [.Call (.Name "zip" p2) [e, e2] [] q0] X.env = (false, eval (.Call (.Name "zip" p2) [e, e2] [] q0) X.env) :: starEach [] X.env := by rfl)
    (hs : starEach [e, e2] X.env = (false, eval e X.env) :: starEach [e2] X.env := by rfl) (hpl : (backTo q0 (starEach [e2] X.env)).any (·.1) = false := by rfl) :
    PE X (.Call (.Name "list" p) [.Call (.Name "zip" p2) [e, e2] [] q0] [] pos) (tListZip X.K ta) := by
  refine ⟨fun pins s σ H Q I h => ?_⟩
  refine PyProof.Rows.Call_ (ld_blt I hg hm PyProof.Rows.boot_list ?_)
  refine PyProof.Rows.callWith_type1 (PyProof.Rows.args_cons ?_ na) na rfl
  refine PyProof.Rows.Call_ (ld_blt I hg2 hm2 PyProof.Rows.boot_zip (PyProof.Rows.callWith_type1 (thn (ha.run q0 pins s σ H _ I h) fun us s1 ⟨vs, H1, I1, r1, q1⟩ => ?_) hs hpl))
  obtain ⟨a, b, xs, ys, ex, hq, q1⟩ := q1
  subst ex
  cases r1 with
  | cons r rr =>
    cases rr with
    | cons r' rr =>
      cases rr
      cases r
      cases r'
      have fresh4 : ∀ c, c ∈ [s1.heap.objs.size + 4, s1.heap.objs.size + 3, s1.heap.objs.size, s1.heap.objs.size + 1] → FpOk X pins H1 c := fun c hcm => by
        have e' : c = s1.heap.objs.size + 4 ∨ c = s1.heap.objs.size + 3 ∨ c = s1.heap.objs.size ∨ c = s1.heap.objs.size + 1 := by simpa using hcm
        have hle : s1.heap.objs.size ≤ c := by
          rcases e' with z | z | z | z
          · rw [z]; exact Nat.le_add_right _ _
          · rw [z]; exact Nat.le_add_right _ _
          · rw [z]; exact Nat.le_refl _
          · rw [z]; exact Nat.le_add_right _ _
        exact I1.fpOk hle (I1.hok.fresh hle)
      rcases hq with ⟨hqx, hqy⟩ | ⟨hqx, hqy⟩
      · obtain ⟨its, rv, p1, hz1⟩ := I1.list hqx
        obtain ⟨its2, rv2, p2', _⟩ := I1.list hqy
        refine call_zip_2 p1.isList p2'.isList fun h' hz hTI hTO h1 h2 hsz hk => PyProof.Rows.args_nil ?_
        have I2 : Inv X pins σ H1 { s1 with heap := h' } := I1.kept (t' := s1.toks) hk
        have la := p1.lt
        have lb := p2'.lt
        refine dl_list_zip (fp1 := [s1.heap.objs.size, a]) (fp2 := [s1.heap.objs.size + 1, b]) (zip_sep2 (fp1 := [a]) (fp2 := [b]) (by simpa using la) (by simpa using lb)) (St1 := fun i h => h.IsListIter s1.heap.objs.size a i ∧ h.IsList a its.toArray) (St2 := fun i h => h.IsListIter (s1.heap.objs.size + 1) b i ∧ h.IsList b its2.toArray) (fun A' hA => by simpa using Draws.list (prog := X.prog) (w := X.w) hA s1.heap.objs.size a (Nat.ne_of_lt la) its.toArray) (fun A' hA => by simpa using Draws.list (prog := X.prog) (w := X.w) hA (s1.heap.objs.size + 1) b (Nat.ne_of_lt (Nat.lt_succ_of_lt lb)) its2.toArray)
          (I1.ok.hd hc) rv rv2 hz1 I2 hz hTO hTI ⟨h1, p1.isList.at fun o e => hk a o e⟩ ⟨h2, p2'.isList.at fun o e => hk b o e⟩ (fun c hc => ?_) (fun c hc => ?_) fresh4 q1
        · show c < h'.objs.size
          rw [hsz]
          rcases List.mem_cons.mp hc with z | hc
          · rw [z]; exact Nat.lt_add_of_pos_right (by decide)
          · rw [List.mem_singleton.mp hc]; exact Nat.lt_add_right _ la
        · show c < h'.objs.size
          rw [hsz]
          rcases List.mem_cons.mp hc with z | hc
          · rw [z]; exact Nat.add_lt_add_left (by decide) _
          · rw [List.mem_singleton.mp hc]; exact Nat.lt_add_right _ lb
      · obtain ⟨its, rv, p1, hz1⟩ := I1.tuple hqx
        obtain ⟨its2, rv2, p2', _⟩ := I1.tuple hqy
        have t1 : s1.heap.IsTuple a its.toArray := p1
        have t2 : s1.heap.IsTuple b its2.toArray := p2'
        obtain ⟨oa, hoa, _⟩ := id p1
        obtain ⟨ob, hob, _⟩ := id p2'
        refine RZ.call_zipT t1 t2 fun h' hz hTI hTO h1 h2 hsz hk => PyProof.Rows.args_nil ?_
        have I2 : Inv X pins σ H1 { s1 with heap := h' } := I1.kept (t' := s1.toks) hk
        have la := Heap.lt_size hoa
        have lb := Heap.lt_size hob
        refine dl_list_zip (fp1 := [s1.heap.objs.size, a]) (fp2 := [s1.heap.objs.size + 1, b]) (zip_sep2 (fp1 := [a]) (fp2 := [b]) (by simpa using la) (by simpa using lb)) (St1 := fun i h => h.IsTupleIter s1.heap.objs.size a i ∧ h.IsTuple a its.toArray) (St2 := fun i h => h.IsTupleIter (s1.heap.objs.size + 1) b i ∧ h.IsTuple b its2.toArray) (fun A' hA => by simpa using Draws.tuple (prog := X.prog) (w := X.w) hA s1.heap.objs.size a (Nat.ne_of_lt la) its.toArray) (fun A' hA => by simpa using Draws.tuple (prog := X.prog) (w := X.w) hA (s1.heap.objs.size + 1) b (Nat.ne_of_lt (Nat.lt_succ_of_lt lb)) its2.toArray)
          (I1.ok.hd hc) rv rv2 hz1 I2 hz hTO hTI ⟨h1, t1.at fun o e => hk a o e⟩ ⟨h2, t2.at fun o e => hk b o e⟩ (fun c hc => ?_) (fun c hc => ?_) fresh4 q1
        · show c < h'.objs.size
          rw [hsz]
          rcases List.mem_cons.mp hc with z | hc
          · rw [z]; exact Nat.lt_add_of_pos_right (by decide)
          · rw [List.mem_singleton.mp hc]; exact Nat.lt_add_right _ la
        · show c < h'.objs.size
          rw [hsz]
          rcases List.mem_cons.mp hc with z | hc
          · rw [z]; exact Nat.add_lt_add_left (by decide) _
          · rw [List.mem_singleton.mp hc]; exact Nat.lt_add_right _ lb
end
end L2

set_option Elab.async false
set_option linter.all false
set_option maxRecDepth 100000
set_option maxHeartbeats 4000000
namespace DL
open PySem L2
variable [TabsC]
theorem zr_ok {K : PySem.W.Frag} {B : Base} {σ : St} {Γ : Env} {f : Nat → List Addr} {ps : List Pend} {S : Addr} {q : Hp → Prop} : ∀ {l1 l2 : List Dat} {xs ys acc : List V} {ds : List Dat} {Hf H : Hp},
    ReachF K B Hf H σ Γ f (⟨.ref S, .own (.lst ds), [S]⟩ :: ps) → H S = some (.lst acc) → Dens K Hf xs l1 → Dens K Hf ys l2 →
    (∀ Hf' H', Reach K B Hf' H' σ Γ (⟨.ref S, .own (.lst (ds ++ zipL l1 l2)), [S]⟩ :: ps) → q H') → ZR S (xs.zip ys) acc H q
  | [], _, _, _, acc, ds, Hf, H, R, hA, .nil, _, k => by
    rw [List.zip_nil_left]
    exact k Hf H ⟨f, by simpa [zipL] using R⟩
  | _ :: _, [], _, _, acc, ds, Hf, H, R, hA, .cons _ _, .nil, k => by
    rw [List.zip_nil_right]
    exact k Hf H ⟨f, by simpa [zipL] using R⟩
  | u1 :: l1, u2 :: l2, _, _, acc, ds, Hf, H, R, hA, .cons (v := v1) d1 r1, .cons (v := v2) d2 r2, k => by
    rw [List.zip_cons_cons]
    intro T hT
    have R1 := R.newT hT (.cons d1 (.cons d2 .nil))
    have dT := (R1.pend _ List.mem_cons_self).2
    have R2 := R1.pop
    obtain ⟨a, ea, efp, hfD, accV, hDa, dacc⟩ : ∃ a, V.ref S = .ref a ∧ [S] = [a] ∧ (upd Hf T (.tup [v1, v2])) a = none ∧ ∃ xs, (upd H T (.tup [v1, v2])) a = some (.lst xs) ∧ Dens K (upd Hf T (.tup [v1, v2])) xs ds := R2.pend _ List.mem_cons_self
    cases ea
    have hne : S ≠ T := fun e => by rw [← e, hA] at hT; cases hT
    rw [upd_ne hne, hA] at hDa
    cases hDa
    have R3 := R2.writeP (o' := .lst (ds ++ [.tuple [u1, u2]])) (u := .lst (acc ++ [.ref T])) ⟨rfl, hfD, _, upd_same, dacc.append (.cons dT .nil)⟩
    have ex : Ex Hf (upd Hf T (.tup [v1, v2])) := ex_upd (by
      by_cases h : Hf T = none
      · exact h
      · cases hq : Hf T with
        | none => rfl
        | some o => exact absurd (R.sub _ _ hq) (by rw [hT]; intro z; cases z))
    exact zr_ok R3 upd_same (r1.mono ex) (r2.mono ex) fun Hf' H' R' => k Hf' H' (by
      have e : ds ++ zipL (u1 :: l1) (u2 :: l2) = (ds ++ [.tuple [u1, u2]]) ++ zipL l1 l2 := by simp [zipL]
      rw [e]
      exact R')
section
variable {X : Cx} {K : PySem.W.Frag} {a b c e tg : Expr} {ma mb mc : M} {mt mu : MT} {md : MD} {pos p : Pos} {j k n : Nat} {es : List Expr} {W W2 : List Nat} {g : MG} {gs : MGs} {x : Str} {F : FS} {mr : MA}
def mListZip (ma mb : M) : M := fun Γ => (ma Γ).bind fun p => (settle p.2 p.1).bind fun p' => (mb p'.2).bind fun q => (settle q.2 q.1).bind fun q' => (seqOf p'.1).bind fun l1 => (seqOf q'.1).bind fun l2 =>
  if l1.1 = l2.1 then some (.own (.lst (zipL l1.2 l2.2)), q'.2) else none
theorem d_listZip {p2 q0 : Pos} (c : Cok k X) (ha : PE X a (tM X.K ma)) (hb : PE X b (tM X.K mb)) (hm : X.mg "list" = none) (hm2 : X.mg "zip" = none) (hg : Gl X "list" := by rfl) (hg2 : Gl X "zip" := by rfl)
    (na : starEach [.Call (.Name "zip" p2) [a, b] [] q0] X.env = (false, eval (.Call (.Name "zip" p2) [a, b] [] q0) X.env) :: starEach [] X.env := by rfl) (hs : starEach [a, b] X.env = (false, eval a X.env) :: starEach [b] X.env := by rfl)
    (hs2 : starEach [b] X.env = (false, eval b X.env) :: starEach [] X.env := by rfl) (hpl : (backTo q0 (starEach [b] X.env)).any (·.1) = false := by rfl) :
    PE X (.Call (.Name "list" p) [.Call (.Name "zip" p2) [a, b] [] q0] [] pos) (tM X.K (mListZip ma mb)) := PE.imp (pe_listZip c.calm hg hm hg2 hm2 (pa_cons ha (pa_cons hb pa_nil hs2) hs) na hs hpl) fun σ H Q h => by
  obtain ⟨B, Hf, Γ, ps, r, Γ', R, e, kk⟩ := h
  obtain ⟨⟨s1, Γ1⟩, e1, e⟩ := bindE e
  obtain ⟨⟨d1, Γ2⟩, e2, e⟩ := bindE e
  obtain ⟨⟨s2, Γ3⟩, e3, e⟩ := bindE e
  obtain ⟨⟨d2, Γ4⟩, e4, e⟩ := bindE e
  obtain ⟨⟨b1, l1⟩, e5, e⟩ := bindE e
  obtain ⟨⟨b2, l2⟩, e6, e⟩ := bindE e
  simp only at e
  split at e
  · rename_i hbb
    subst hbb
    cases e
    refine ⟨B, Hf, Γ, ps, s1, Γ1, R, e1, fun x fp1 Hf1 H1 R1 => ?_⟩
    obtain ⟨Hf2, _, R2⟩ := R1.settle e2
    refine ⟨B, Hf2, Γ2, _, s2, Γ3, R2, e3, fun y fp2 Hf3 H3 R3 => ?_⟩
    obtain ⟨Hf4, _, f4, R4⟩ := R3.settle e4
    obtain ⟨q, ys, rfl, dy, qy⟩ := Den.seqF (R4.pend _ List.mem_cons_self).2 e6
    obtain ⟨p, xs, rfl, dx, qx⟩ := Den.seqF (R4.pop.pend _ List.mem_cons_self).2 e5
    refine ⟨p, q, xs, ys, rfl, ?_, fun S hS => ?_⟩
    · rcases qx with ⟨rfl, qx⟩ | ⟨rfl, qx⟩
      · rcases qy with ⟨_, qy⟩ | ⟨z, _⟩
        · exact .inl ⟨Evl.ex_l R4.sub qx, Evl.ex_l R4.sub qy⟩
        · cases z
      · rcases qy with ⟨z, _⟩ | ⟨_, qy⟩
        · cases z
        · exact .inr ⟨Evl.ex_t R4.sub qx, Evl.ex_t R4.sub qy⟩
    · have R5 := R4.pop.pop.newL (xs := []) (ds := []) hS .nil
      exact zr_ok R5 upd_same dx dy fun Hf' H' R' => kk (.ref S) [S] Hf' H' (by simpa using R')
  · cases e
/-! ### two clauses -/
variable {iter iter1 elt tg1 : Expr} {mi mi1 : MI} {g1 : MG} {me : M} {scope : Scope} {own : List (Str × Nat)}
theorem d_lc2 {vs1 : List Nat} (hc : Cok k X) (hi : PI X tg iter (tI X.K mi)) (ok : BlkOk X.N X.env.scope scope own) (hv : ∀ i ∈ vs1, i ∈ own.map (·.2))
    (hg : ∀ (s : Shared) (H : Hp) (C : Addr) (cl : List (Str × Addr)) (fp : List Addr), PG (X.blk s H scope (compEnvC scope cl C X.env) fp) tg (tG X.K (own.map (·.2)) g))
    (hi1 : ∀ (s : Shared) (H : Hp) (C : Addr) (cl : List (Str × Addr)) (fp : List Addr), PI (X.blk s H scope (compEnvC scope cl C X.env) fp) tg1 iter1 (tI X.K mi1))
    (hg1 : ∀ (s : Shared) (H : Hp) (C : Addr) (cl : List (Str × Addr)) (fp : List Addr), PG (X.blk s H scope (compEnvC scope cl C X.env) fp) tg1 (tG X.K vs1 g1))
    (he : ∀ (s : Shared) (H : Hp) (C : Addr) (cl : List (Str × Addr)) (fp : List Addr), PE (X.blk s H scope (compEnvC scope cl C X.env) fp) elt (tM X.K me)) (hs : ∀ x, foldedSetIterable iter X.env x = pure x := by intro _; rfl) (hs1 : ∀ env x, foldedSetIterable iter1 env x = pure x := by intro _ _; rfl) :
    PE X (.ListComp elt [⟨tg, iter, [], 0⟩, ⟨tg1, iter1, [], 0⟩] scope pos) (tM X.K (mLc2 mi g mi1 g1 me (own.map (·.2)) vs1)) :=
  PE.imp (pe_lc2 hc.calm hc.nd hi ok hv hg (fun _ _ _ _ _ => dts_nil) hi1 hg1 (fun _ _ _ _ _ => dts_nil) he hs hs1) fun _ _ _ => lc2_imp hv
theorem ds_setLc2 (i : Nat) {y : Str} {py spos : Pos} {vs1 : List Nat} (hc : Cok k X) (hi : PI X tg iter (tI X.K mi)) (ok : BlkOk X.N X.env.scope scope own) (hv : ∀ i ∈ vs1, i ∈ own.map (·.2))
    (hg : ∀ (s : Shared) (H : Hp) (C : Addr) (cl : List (Str × Addr)) (fp : List Addr), PG (X.blk s H scope (compEnvC scope cl C X.env) fp) tg (tG X.K (own.map (·.2)) g))
    (hi1 : ∀ (s : Shared) (H : Hp) (C : Addr) (cl : List (Str × Addr)) (fp : List Addr), PI (X.blk s H scope (compEnvC scope cl C X.env) fp) tg1 iter1 (tI X.K mi1))
    (hg1 : ∀ (s : Shared) (H : Hp) (C : Addr) (cl : List (Str × Addr)) (fp : List Addr), PG (X.blk s H scope (compEnvC scope cl C X.env) fp) tg1 (tG X.K vs1 g1))
    (he : ∀ (s : Shared) (H : Hp) (C : Addr) (cl : List (Str × Addr)) (fp : List Addr), PE (X.blk s H scope (compEnvC scope cl C X.env) fp) elt (tM X.K me))
    (hyl : X.env.scope.names.lookup y = some .local) (hsw : swapsWith (.ListComp elt [⟨tg, iter, [], 0⟩, ⟨tg1, iter1, [], 0⟩] scope pos) (some (.Name y py)) spos.line X.env = pure true) (hy : X.N[i]? = some y := by rfl)
    (hs : ∀ x, foldedSetIterable iter X.env x = pure x := by intro _; rfl) (hs1 : ∀ env x, foldedSetIterable iter1 env x = pure x := by intro _ _; rfl) :
    PS X (.Assign [.Name y py] (.ListComp elt [⟨tg, iter, [], 0⟩, ⟨tg1, iter1, [], 0⟩] scope pos) spos) (tS X.K [i] (mSet (setS i) (mLc2 mi g mi1 g1 me (own.map (·.2)) vs1))) :=
  PS.imp (ps_setLc2 hc.calm hc.nd hy hyl hsw hi ok hv hg (fun _ _ _ _ _ => dts_nil) hi1 hg1 (fun _ _ _ _ _ => dts_nil) he hs hs1) fun _ _ _ h => set_imp (fun _ _ _ q => lc2_imp hv q) h
/-! ### {'a': x} -/
def mDict1 (s : Str) (ma : M) : M := fun Γ => (ma Γ).bind fun p => (settle p.2 p.1).bind fun q => some (.own (.dct [(.str s, q.1)]), q.2)
theorem d_dict1 {s : Str} {j1 : Nat} {p1 : Pos} (ha : PE X a (tM X.K ma)) : PE X (.Dict [some (.Constant (.str s) j1 p1)] [a] pos) (tM X.K (mDict1 s ma)) :=
  PE.imp (pe_disp (trs := [(tC (.str s), tM X.K ma)]) (pps_cons pe_str ha pps_nil) rfl rfl (by simp) (by simp)) fun σ H Q h => by
    obtain ⟨B, Hf, Γ, ps, r, Γ', ⟨f, R⟩, e, kk⟩ := h
    obtain ⟨⟨s1, Γ1⟩, e1, e⟩ := bindE e
    obtain ⟨⟨d1, Γ2⟩, e2, e⟩ := bindE e
    cases e
    intro p hp
    refine ⟨B, Hf, Γ, _, s1, Γ1, ⟨_, R.newD (kvs := []) (ds := []) hp .nil⟩, e1, fun v fp Hf1 H1 R1 => ?_⟩
    obtain ⟨Hf2, _, f2, R2⟩ := R1.settle e2
    have dv := (R2.pend _ List.mem_cons_self).2
    have R3 := R2.pop
    obtain ⟨a', ea, efp, hfD, kvs, hDa, dacc⟩ : ∃ a', V.ref p = .ref a' ∧ [p] = [a'] ∧ Hf2 a' = none ∧ ∃ xs, H1 a' = some (.dK xs) ∧ DenK X.K Hf2 xs [] := R3.pend _ List.mem_cons_self
    cases ea
    cases dacc
    refine ⟨hDa, [(.inr s, v)], rfl, by simp, ?_⟩
    refine kk (.ref p) [p] Hf2 _ ⟨f2, R3.writeP (o' := .dct [(.str s, d1)]) ⟨rfl, hfD, _, upd_same, ?_⟩⟩
    exact .cons dv .nil
end
end DL

set_option Elab.async false
set_option linter.all false
set_option maxRecDepth 100000
set_option maxHeartbeats 4000000
namespace HT
open PySem PyProof.Rows
open PySem.SeqAt
section
variable {prog : Program} {w : World} {A : Around} {E : Value → Shared → Prop} {s : Shared}
theorem dl_places (n : Nat) : Builtin.Slice.slicePlaces ((n : Int) - 1) (-1) (-1) = n := by
  unfold Builtin.Slice.slicePlaces
  have h1 : ¬ ((-1 : Int) > 0) := by omega
  simp only [h1, if_false]
  by_cases h : (n : Int) - 1 > -1
  · rw [if_pos h, show (- -1 : Int) = 1 by decide, Int.ediv_one]
    omega
  · rw [if_neg h]
    omega
theorem dl_sliceRev {sl : Addr} {vl vu vs : Value} {n : Nat} {Q : Int × Int × Nat → Shared → Prop} (hs : s.heap.IsSliceOf sl vl vu vs) (pl : IsPart vl none) (pu : IsPart vu none) (ps : IsPart vs (some (-1)))
    (h : Q (((n : Int) - 1), -1, n) s) : wpAny (model prog w) A (Builtin.Slice.sliceApplied (.ref sl) (pure (n : Int))) Q E s := by
  obtain ⟨os, hos, hcs, hds⟩ := id hs
  unfold Builtin.Slice.sliceApplied Builtin.Slice.sliceFields
  refine wpAny_bind (wpAny_bind (wpAny_field hos hds (x := vl) rfl (wpAny_bind (wpAny_field hos hds (x := vu) rfl (wpAny_bind (wpAny_field hos hds (x := vs) rfl (wpAny_pure ?_)))))))
  refine wpAny_bind (slicePart_ ps ?_)
  show wpAny _ _ (if ((-1 : Int) == 0) = true then _ else _) _ _ s
  rw [if_neg (by decide)]
  refine wpAny_bind (slicePart_ pl (wpAny_bind (slicePart_ pu (wpAny_bind (wpAny_pure ?_)))))
  show wpAny _ _ (pure ((n : Int) - 1, (-1 : Int), Builtin.Slice.slicePlaces ((n : Int) - 1) (-1) (-1))) _ _ s
  rw [dl_places]
  exact wpAny_pure h
theorem dl_pickRev (xs : Array Value) : ((List.range xs.size).filterMap fun (k : Nat) => xs[(((xs.size : Int) - 1) + (k : Int) * -1).toNat]?).toArray = xs.toList.reverse.toArray := by
  rw [← PySem.W.krv_pick]
  unfold slicePick
  rw [PySem.W.krv_bounds]
  show _ = ((sliceRange ((xs.size : Int) - 1) (-1) (-1)).filterMap (xs[·]?)).toArray
  rw [PySem.W.krv_sliceRange, List.filterMap_map]
  congr 2
  funext k
  have : (((xs.size : Int) - 1) + (k : Int) * -1).toNat = xs.size - 1 - k := by omega
  rw [this]
  rfl
theorem dl_tuple_rev {t sl : Addr} {items : Array Value} {vl vu vs : Value} {Q : Value → Shared → Prop} (ht : IsTup s.heap t items) (hs : s.heap.IsSliceOf sl vl vu vs) (pl : IsPart vl none) (pu : IsPart vu none) (ps : IsPart vs (some (-1)))
    (h : Q (.ref s.heap.objs.size) { s with heap := s.heap.push { cls := .type "tuple", data := .seq items.toList.reverse.toArray } })
    (hsz : items.size ≤ sizeLine) : wpAny (model prog w) A (getItem (.ref t) (.ref sl)) Q E s := by
  have htake : sizeOk (.seq items.toList.reverse.toArray) := by
    show items.toList.reverse.toArray.size ≤ sizeLine
    rw [List.size_toArray, List.length_reverse, Array.length_toList]
    exact hsz
  obtain ⟨os, hos, hcs, hds⟩ := id hs
  have hTs : s.TypeIs (.ref sl) "slice" := ⟨os, hos, hcs⟩
  unfold getItem
  try with_reducible refine wpAny_holding ?_
  first | refine wpAny_bind (wpAny_pure ?_) | skip
  refine wpAny_bind (wpAny_sequenceKey ht.typeIs (by decide) ?_)
  refine wpAny_bind (wpAny_callSpecial?_slot (name := Str.ofString "__getitem__") ht.typeIs PyProof.Rows.slot_tuple_getitem
    (wpAny_call_entry PyProof.Rows.slot_tuple_getitem ht.typeIs entry_tuple_getitem ?_ (args_tuple_getitem _ _)))
  show wpAny _ _ (Builtin.Tuple.tupleItemsOf (.ref t) >>= _) _ _ s
  refine wpAny_bind (tupleItemsOf_ ht ?_)
  refine wpAny_bind (wpAny_typeOf hTs ?_)
  rw [if_pos (by decide)]
  refine wpAny_bind (dl_sliceRev hs pl pu ps ?_)
  show wpAny _ _ (if (((items.size : Int) - 1) == 0 && (-1 : Int) == 1 && items.size == items.size) = true then _ else _) _ _ s
  rw [if_neg (by simp), dl_pickRev]
  first
    | exact wpAny_bind (m := Builtin.Tuple.tupleExact _) (wpAny_newObj_type (wpAny_pure ⟨_, rfl, wpAny_pure h⟩) htake)
    | exact wpAny_bind (m := Builtin.Tuple.tupleExact _) (wpAny_newObj_type (wpAny_bind (wpAny_pure (wpAny_pure ⟨_, rfl, wpAny_pure h⟩))) htake)
    | exact wpAny_bind (wpAny_bind (m := Builtin.Tuple.tupleExact _) (wpAny_newObj_type (wpAny_pure (wpAny_pure ⟨_, rfl, wpAny_pure h⟩)) htake))
    | exact wpAny_bind (wpAny_bind (m := Builtin.Tuple.tupleExact _) (wpAny_newObj_type (wpAny_pure ⟨_, rfl, wpAny_pure h⟩) htake))
end
end HT
namespace L2
open PySem PySem.Spec PyProof.Rows
def tRevT (K : PySem.W.Frag) (te : TE) : TE := fun σ H Q => te σ H fun x H1 => ∃ a xs, x = .ref a ∧ SqT K H1 a xs ∧ ∀ p, H1 p = none → Q (.ref p) (upd H1 p (.tup xs.reverse))
theorem pe_revT {X : Cx} {e : Expr} {te : TE} {k : Nat} {p1 p2 p3 pos : Pos} (he : PE X e te) : PE X (.Subscript e (.Slice none none (some (.UnaryOp .USub (.Constant (.int 1) k p1) p2)) p3) pos) (tRevT X.K te) := by
  refine ⟨fun pins s σ H Q I h => ?_⟩
  refine Subscript_ (thn (he.run pins s σ H _ I h) fun v s1 ⟨x, H1, I1, r1, q1⟩ => ?_)
  obtain ⟨a, xs, ex, hx, q⟩ := q1
  subst ex
  cases r1
  have hst : PO X (some (.UnaryOp .USub (.Constant (.int 1) k p1) p2)) (tPart (tUn (rU fun i => .int (-i)) (tC (.int 1)))) := po_some (pe_un un_neg pe_int)
  refine wpAny_Slice (thn (po_none.run pins s1 σ H1 (fun o H2 => o = none ∧ H2 = H1) I1 ⟨rfl, rfl⟩) fun vl s2 ⟨l, H2, I2, pl, el, e2⟩ => ?_)
  subst el e2
  refine thn (po_none.run pins s2 σ H2 (fun o H3 => o = none ∧ H3 = H2) I2 ⟨rfl, rfl⟩) fun vu s3 ⟨u, H3, I3, pu, eu, e3⟩ => ?_
  subst eu e3
  refine thn (hst.run pins s3 σ H3 (fun o H4 => o = some (-1) ∧ H4 = H3) I3 ⟨1, rfl, -1, rfl, rfl, rfl⟩) fun vs s4 ⟨o, H4, I4, ps, eo, e4⟩ => ?_
  subst eo e4
  have I5 : Inv X pins σ H4 { s4 with heap := s4.heap.push { cls := .type "slice", data := .fields #[vl, vu, vs] } } := I4.kept (t' := s4.toks) fun b ob q => Heap.get?_push_of_some _ q
  obtain ⟨its, r, ht, hz⟩ := I5.tuple hx
  have hlen := r.length
  show wpAny (model X.prog X.w) X.A (subscriptTail e (.Slice none none (some (.UnaryOp .USub (.Constant (.int 1) k p1) p2)) p3) (.ref a) (.ref s4.heap.objs.size)) (EP X pins σ Q) X.xe { s4 with heap := s4.heap.push { cls := .type "slice", data := .fields #[vl, vu, vs] } }
  refine tail_any (ops := [.ref a, .ref s4.heap.objs.size]) ht.typeIs (PyProof.Rows.slot_tuple_getitem.lookup) ?_ (by with_unfolding_all rfl)
  refine HT.dl_tuple_rev ht (Heap.IsSliceOf.new _ vl vu vs) pl pu ps ?_ (by rw [List.size_toArray]; omega)
  refine ⟨.ref _, _, I5.laid (t' := s4.toks) (o := .tup xs.reverse) (fun b ob q => Heap.get?_push_of_some _ q) (Nat.le_refl _) ?_, rfl, q _ (I5.hok.fresh (Nat.le_refl _))⟩
  exact ⟨by rw [List.length_reverse]; omega, its.reverse, r.reverse, ⟨_, Heap.get?_push_size _ rfl, rfl, _, rfl⟩⟩
end L2
namespace DL
open PySem L2
variable [TabsC]
section
variable {X : Cx} {a : Expr} {ma : M}
def gRev : Slot → Env → Option (Slot × Env) := fun s Γ => (viewD Γ s).bind fun d => match d with
  | .tuple l => some (.d (.tuple l.reverse), Γ)
  | _ => none
theorem d_rev {k : Nat} {p1 p2 p3 pos : Pos} (ha : PE X a (tM X.K ma)) : PE X (.Subscript a (.Slice none none (some (.UnaryOp .USub (.Constant (.int 1) k p1) p2)) p3) pos) (tM X.K (mUn gRev ma)) :=
  PE.imp (pe_revT ha) fun σ H Q h => by
    obtain ⟨B, Hf, Γ, ps, r, Γ', R, e, k⟩ := h
    obtain ⟨⟨s1, Γ1⟩, e1, e⟩ := bindE e
    obtain ⟨d, e2, e⟩ := bindE e
    refine ⟨B, Hf, Γ, ps, s1, Γ1, R, e1, fun x fp1 Hf1 H1 ⟨f, R1⟩ => ?_⟩
    cases d <;> simp only [reduceCtorEq] at e
    simp only [Option.some.injEq, Prod.mk.injEq] at e
    obtain ⟨rfl, rfl⟩ := e
    obtain ⟨a1, xs, h1, q1, dx⟩ := R1.itemsP (p := ⟨x, s1, fp1⟩) (by simp) e2 rfl
    exact ⟨a1, xs, h1, by simpa using q1, fun p hp => k _ _ _ _ ⟨f, R1.pop.newT hp dx.reverse⟩⟩
end
end DL

set_option Elab.async false
set_option linter.all false
set_option maxRecDepth 100000
set_option maxHeartbeats 4000000
namespace L2
open PySem PySem.Spec PyProof.Rows
/-! ### what a set of ints is -/
def keyS (e : Int × Value) : Str := strOf e.2
def GoodS (w : World) (e : Int × Value) : Prop := ∃ k tk, e.2 = Value.str k tk ∧ e.1 = hashStr w k

/-- the set of ints at a: S its members, n their number; its table rises and can be walked -/
def SetRS (w : World) (h : Heap) (a : Addr) (S : Str → Bool) (n : Nat) : Prop :=
  ∃ o es ep t, h.get? a = some o ∧ o.ExactSet ∧ o.data = .set es ep t ∧ (∀ e ∈ es.toList, GoodS w e) ∧ (es.toList.map keyS).Nodup ∧ (∀ k, S k = true ↔ k ∈ es.toList.map keyS) ∧
    es.size < scanBound ∧ t.fits es.size = true ∧ es.size = n ∧ Ris t.place.toList ∧ (w.params.followText "set-order" = true ∨ t.led = true)

section
variable {P : Program} {w : World} {h h' : Heap} {a : Addr} {S : Str → Bool} {n : Nat}

theorem SetRS.at (R : SetRS w h a S n) (k : ∀ o, h.get? a = some o → h'.get? a = some o) : SetRS w h' a S n := by
  obtain ⟨o, es, ep, t, ho, r⟩ := R
  exact ⟨o, es, ep, t, k o ho, r⟩
theorem SetRS.lt (R : SetRS w h a S n) : a < h.objs.size := by
  obtain ⟨o, es, ep, t, ho, r⟩ := R
  exact Heap.lt_size ho
theorem SetRS.congr {S' : Str → Bool} (R : SetRS w h a S n) (e : ∀ k, S' k = S k) : SetRS w h a S' n := by
  have q : S' = S := funext e
  rw [q]; exact R
theorem goodS_elems {l : List (Int × Value)} (g : ∀ e ∈ l, GoodS w e) : ElemsOf (PySem.strKind P w) l := fun e he => by
  obtain ⟨k, tk, h1, h2⟩ := g e he
  exact ⟨⟨k, by rw [h1]; exact PySem.strKind_is P w k tk, h2⟩, by rw [h1] <;> rfl⟩
theorem goodS_is {e : Int × Value} (g : GoodS w e) (k : Str) : (PySem.strKind P w).is k e.2 = true ↔ keyS e = k := by
  obtain ⟨k0, tk, h1, _⟩ := g
  unfold keyS
  rw [h1]
  show ((k0 == k) = true) ↔ k0 = k
  exact beq_iff_eq
theorem goodS_mem {l : List (Int × Value)} (g : ∀ e ∈ l, GoodS w e) (k : Str) : k ∈ l.map keyS ↔ ∃ e ∈ l, (PySem.strKind P w).is k e.2 = true := by
  rw [List.mem_map]
  constructor
  · rintro ⟨e, he, q⟩
    exact ⟨e, he, (goodS_is (g e he) k).2 q⟩
  · rintro ⟨e, he, q⟩
    exact ⟨e, he, (goodS_is (g e he) k).1 q⟩
theorem SetRS.setOf (R : SetRS w h a S n) : h.SetOf (PySem.strKind P w) a S n := by
  obtain ⟨o, es, ep, t, ho, hx, hd, g, nd, hm, hb, hf, hn, _⟩ := R
  exact ⟨o, es, ep, t, ho, hx, hd, goodS_elems g, fun k => (hm k).trans (goodS_mem g k), hb, hf, hn⟩
end

section
variable {P : Program} {w : World} {A : Around} {E : Value → Shared → Prop} {s : Shared} {a : Addr} {S : Str → Bool} {n : Nat}

/-! ### add -/
theorem storeS_at {h : Heap} {a : Addr} {o : Obj} {es es' : Array (Int × Value)} {ep : Nat} {t t' : SetTable} (ho : h.get? a = some o) (hd : o.data = .set es ep t) :
    (h.update a (Obj.putSet es' t')).get? a = some { o with data := .set es' (ep + 1) t' } := by
  have q := Heap.get?_update_self (Obj.putSet es' t') ho (by rw [putSet_of es' t' hd]; rfl)
  rw [putSet_of es' t' hd] at q
  exact q

theorem setS_add_tail {g : Bool → Sem Unit} (hg : ∀ (b : Bool) (s₁ : Shared) (Q' : Unit → Shared → Prop), Q' () s₁ → wpAny (model P w) A (g b) Q' E s₁)
    {o : Obj} {es : Array (Int × Value)} {ep : Nat} {t : SetTable} (ho : s.heap.get? a = some o) (hex : o.ExactSet) (hd : o.data = .set es ep t)
    {es1 : Array (Int × Value)} {t2 : SetTable} {S' : Str → Bool} (g1 : ∀ e ∈ es1.toList, GoodS w e) (nd1 : (es1.toList.map keyS).Nodup) (m1 : ∀ k, S' k = true ↔ k ∈ es1.toList.map keyS)
    (hb1 : es1.size < scanBound) (hf2 : t2.fits es1.size = true) (hr : Ris t2.place.toList) (hl : w.params.followText "set-order" = true ∨ t2.led = true) {wasDummy : Bool} {R : Option Bool → Shared → Prop}
    (hR : ∀ h', Heap.SameBut a s.heap h' → SetRS w h' a S' es1.size → R (some true) { s with heap := h' }) :
    wpAny (model P w) A (do
        storeSet a es1 t2
        if (!wasDummy && t2.tooFull) = true then do
            g (relayAll t2 es1 (SetTable.grown es1.size)).2.2
            storeSet a (relayAll t2 es1 (SetTable.grown es1.size)).1 (relayAll t2 es1 (SetTable.grown es1.size)).2.1
            pure (some true)
          else pure (some true)) R E s := by
  refine wpAny_bind (wpAny_storeSet_of ho hd ?_ (fits_of_scanBound hb1))
  have ho1 := storeS_at (es' := es1) (t' := t2) ho hd
  have sb1 := Heap.SameBut.update s.heap a (Obj.putSet es1 t2)
  split
  · have pm := relayAll_perm t2 es1 (SetTable.grown es1.size)
    have hf3 := relayAll_fits t2 es1 (SetTable.grown es1.size)
    have hr3 := relayAll_ris t2 es1 (SetTable.grown es1.size)
    have hl3 := relayAll_led t2 es1 (SetTable.grown es1.size)
    generalize relayAll t2 es1 (SetTable.grown es1.size) = Z at pm hf3 hr3 hl3 ⊢
    obtain ⟨es2, t3, gave⟩ := Z
    dsimp only at pm hf3 hr3 hl3 ⊢
    have hsz : es2.size = es1.size := by rw [← Array.length_toList, pm.length_eq, Array.length_toList]
    have hb2 : es2.size < scanBound := by rw [hsz]; exact hb1
    refine wpAny_bind (hg _ _ _ ?_)
    refine wpAny_bind (wpAny_storeSet_of ho1 rfl ?_ (fits_of_scanBound hb2))
    have ho2 := storeS_at (es' := es2) (t' := t3) ho1 rfl
    refine wpAny_pure (hR _ (sb1.trans (Heap.SameBut.update _ a _)) ?_)
    exact ⟨_, es2, _, t3, ho2, hex, rfl, fun e he => g1 e (pm.mem_iff.mp he), (pm.map keyS).nodup_iff.mpr nd1, fun k => (m1 k).trans (pm.map keyS).mem_iff.symm, hb2, hf3, hsz, hr3,
      hl.imp id fun z => by rw [hl3]; exact z⟩
  · exact wpAny_pure (hR _ sb1 ⟨_, es1, _, t2, ho1, hex, rfl, g1, nd1, m1, hb1, hf2, rfl, hr, hl⟩)

theorem setS_add_hashed {k : Str} {tk : Tok} {Q : Bool → Shared → Prop} (R : SetRS w s.heap a S n) (room : n + 1 < scanBound)
    (hQ : ∀ h', Heap.SameBut a s.heap h' → SetRS w h' a (fun j => S j || decide (j = k)) (if S k = true then n else n + 1) → Q (!S k) { s with heap := h' }) :
    wpAny (model P w) A (setAddHashed a (.str k tk) ((PySem.strKind P w).hash k)) Q E s := by
  obtain ⟨o, es, ep, t, ho, hex, hd, g, nd, hm, hb, hf, hn, hr, hl⟩ := R
  have hkey : (PySem.strKind P w).is k (.str k tk) = true := PySem.strKind_is P w k tk
  have hsc : (Value.str k tk).scannable = true := rfl
  have hel : ElemsOf (PySem.strKind P w) es.toList := goodS_elems g
  unfold setAddHashed setAddHashedIn
  refine wpAny_holding (wpAny_bind (wpAny_setState_of ho hd hf ?_))
  dsimp only
  rw [byScan_of hsc hb hel]
  simp only [↓reduceIte]
  unfold setAddByScan
  refine wpAny_bind ?_
  refine wpAny_bind (wpAny_rule ?_)
  refine wpAny_bind (wpAny_setScan_of hkey ho hd hf hel ?_)
  cases hfi : List.findIdx? (fun e => (PySem.strKind P w).is k e.2) es.toList with
  | some j =>
    dsimp only
    obtain ⟨hj, pj, _⟩ := List.findIdx?_eq_some_iff_getElem.mp hfi
    have hSk : S k = true := (hm k).2 ((goodS_mem (P := P) (w := w) g k).2 ⟨es.toList[j], List.getElem_mem hj, pj⟩)
    refine wpAny_pure (wpAny_pure ?_)
    have q := hQ s.heap (Heap.SameBut.refl a s.heap) ⟨o, es, ep, t, ho, hex, hd, g, nd, fun i => by
      rw [Bool.or_eq_true, decide_eq_true_eq, ← hm i]
      exact ⟨fun z => z.elim id (fun e => e ▸ hSk), .inl⟩, hb, hf, by rw [if_pos hSk]; exact hn, hr, hl⟩
    rw [hSk] at q
    exact q
  | none =>
    dsimp only
    have hnk : k ∉ es.toList.map keyS := fun z => by
      obtain ⟨e, he, q⟩ := (goodS_mem (P := P) (w := w) g k).1 z
      have c := List.findIdx?_eq_none_iff.mp hfi e he
      rw [q] at c
      cases c
    have hSk : S k = false := by
      cases q : S k with
      | false => rfl
      | true => exact absurd ((hm k).1 q) hnk
    have hgw : ∀ (b : Bool) {s₁ : Shared} {Q' : Unit → Shared → Prop}, Q' () s₁ → wpAny (model P w) A (match b with | true => rule "set.scan.the-table-gave-way" | false => pure ()) Q' E s₁ :=
      fun b s₁ Q' q => by cases b <;> first | exact wpAny_pure q | exact wpAny_rule q
    have pm := layNew_perm t es ((PySem.strKind P w).hash k) (.str k tk)
    have hf1 := layNew_fits t es ((PySem.strKind P w).hash k) (.str k tk)
    have hr1 := layNew_ris t es ((PySem.strKind P w).hash k) (.str k tk) hr
    have hl1 := layNew_led t es ((PySem.strKind P w).hash k) (.str k tk)
    generalize layNew t es ((PySem.strKind P w).hash k) (.str k tk) = Z at pm hf1 hr1 hl1 ⊢
    obtain ⟨es1, t1, wasDummy, gave⟩ := Z
    dsimp only at pm hf1 hr1 hl1 ⊢
    rw [Array.toList_push] at pm
    have pc : es1.toList.Perm (((PySem.strKind P w).hash k, Value.str k tk) :: es.toList) := pm.trans (List.perm_append_singleton _ _)
    have pk : (es1.toList.map keyS).Perm (k :: es.toList.map keyS) := pc.map keyS
    have g1 : ∀ e ∈ es1.toList, GoodS w e := fun e he => by
      rcases List.mem_cons.mp (pc.mem_iff.mp he) with z | z
      · rw [z]; exact ⟨k, tk, rfl, rfl⟩
      · exact g e z
    have nd1 : (es1.toList.map keyS).Nodup := pk.nodup_iff.mpr (List.nodup_cons.mpr ⟨hnk, nd⟩)
    have m1 : ∀ i, (S i || decide (i = k)) = true ↔ i ∈ es1.toList.map keyS := fun i => by
      rw [Bool.or_eq_true, decide_eq_true_eq, hm i, pk.mem_iff, List.mem_cons]
      exact Or.comm
    have hsz : es1.size = n + 1 := by rw [← Array.length_toList, pc.length_eq, List.length_cons, Array.length_toList, hn]
    have hb1 : es1.size < scanBound := by rw [hsz]; exact room
    have hled : w.params.followText "set-order" = true ∨ t1.led = true := hl.imp id fun z => by rw [hl1]; exact z
    have fin : ∀ h', Heap.SameBut a s.heap h' → SetRS w h' a (fun j => S j || decide (j = k)) es1.size → Q true { s with heap := h' } := fun h' sb r => by
      have q := hQ h' sb
      rw [hSk] at q
      rw [hsz] at r
      exact q r
    refine wpAny_bind (hgw _ ?_)
    split
    · refine wpAny_bind ?_
      rw [hashByValue_scannable 8 hsc]
      refine wpAny_pure ?_
      refine setS_add_tail ?_ ho hex hd g1 nd1 m1 hb1 ?_ ?_ ?_ ?_
      · intro b s₁ Q' q; cases b <;> first | exact wpAny_pure q | exact wpAny_rule q
      · first | (split <;> first | exact hf1 | exact SetTable.fits_plain_off hf1) | exact hf1
      · first | (split <;> exact hr1) | exact hr1
      · first | (split <;> exact hled) | exact hled
      · intro h' sb r; dsimp only; exact wpAny_pure (fin h' sb r)
    · refine wpAny_bind (wpAny_pure ?_)
      simp only [↓reduceIte]
      refine setS_add_tail ?_ ho hex hd g1 nd1 m1 hb1 hf1 hr1 hled ?_
      · intro b s₁ Q' q; cases b <;> first | exact wpAny_pure q | exact wpAny_rule q
      · intro h' sb r; dsimp only; exact wpAny_pure (fin h' sb r)

end
theorem setS_new_at {w : World} {h : Heap} {a : Addr} {ns : List Str} (ho : h.get? a = some { cls := .type "set", dict := none, data := .set #[] 0 (.fresh 0 0 (!w.params.followText "set-order")) }) : SetRS w h a (fun j => decide (j ∈ ns.take 0)) 0 :=
  ⟨_, #[], 0, _, ho, ⟨rfl, rfl, rfl⟩, rfl, (fun e he => by simp at he), (by simp), (fun k => by simp), (by decide), (by rfl), rfl, List.Pairwise.nil, by
    show _ ∨ (!w.params.followText "set-order") = true
    cases w.params.followText "set-order"
    · exact .inr rfl
    · exact .inl rfl⟩
section
variable {P : Program} {w : World} {A : Around} {E : Value → Shared → Prop} {s : Shared}
theorem set_update_strs {I : Addr} {fp wr : List Addr} {G : Array GenState → Array GenState → Prop} {n : Nat} {Pv : Nat → Value → Prop} {St : Nat → Shared → Prop} {R : Result → Shared → Prop}
    (W : WalksS P w A.in1 I fp wr G n Pv St) (S : Addr) (hSf : S ∉ fp) (ns : List Str) (hn : n = ns.length) (hb : ns.length + 1 < scanBound) (hval : ∀ i v, Pv i v → ∃ k t, ns[i]? = some k ∧ v = .str k t) :
    ∀ (k i : Nat) (s : Shared), n - i = k → i ≤ n → St i s → (∃ c, c ≤ i ∧ SetRS w s.heap S (fun j => decide (j ∈ ns.take i)) c) →
      (∀ s' c, Moved (S :: wr) G s s' → c ≤ n → SetRS w s'.heap S (fun j => decide (j ∈ ns)) c → R (.ok (.ret .none)) s') →
      codeAny (model P w) A (.builtin "set.update.loop" ⟨[.ref S, .ref I], []⟩) R s := by
  have hSw : S ∉ wr := fun h => hSf (W.sub _ h)
  have hsub : ∀ b ∈ wr, b ∈ S :: wr := fun b hb => List.mem_cons_of_mem _ hb
  intro k
  induction k with
  | zero =>
    intro i s hk' hi hst ⟨c, hc, hS⟩ hR
    have hin : i = n := by omega
    subst hin
    refine codeAny_builtin F.entry_set_update_loop ?_
    rw [Around.under_plainId F.plain_set_update_loop _]
    show wpAny _ A.in1 (pyNext (.ref I) >>= _) _ _ s
    refine wpAny_bind (W.done s _ _ hst fun s' hm => ?_)
    show wpAny _ A.in1 (ret Value.none) _ _ s'
    have e : ns.take i = ns := List.take_of_length_le (by omega)
    rw [e] at hS
    exact wpAny_pure (hR s' c (hm.mono hsub) hc (hS.at fun o e => hm.heap S o hSw e))
  | succ k ih =>
    intro i s hk' hi hst ⟨c, hc, hS⟩ hR
    have hlt : i < n := by omega
    refine codeAny_builtin F.entry_set_update_loop ?_
    rw [Around.under_plainId F.plain_set_update_loop _]
    show wpAny _ A.in1 (pyNext (.ref I) >>= _) _ _ s
    refine wpAny_bind (W.item i s _ _ hlt hst fun v s' hP hst' hm => ?_)
    obtain ⟨z, t, hz, rfl⟩ := hval i v hP
    have hS' : SetRS w s'.heap S (fun j => decide (j ∈ ns.take i)) c := hS.at fun o e => hm.heap S o hSw e
    show wpAny _ A.in1 (holding [Value.str z t] (setAdd S (.str z t)) >>= _) _ _ s'
    refine wpAny_bind (wpAny_holding ?_)
    unfold setAdd
    refine wpAny_holding ?_
    refine wpAny_bind ((PySem.strKind P w).pyHash (k := z) (PySem.strKind_is _ _ _ _) ?_)
    refine setS_add_hashed (s := { s' with toks := s'.toks + 1 }) hS' (by omega) fun h' hsb hS2 => ?_
    have hS3 : SetRS w h' S (fun j => decide (j ∈ ns.take (i + 1))) (if decide (z ∈ ns.take i) = true then c else c + 1) := hS2.congr fun j => by
      rw [List.take_add_one, hz]
      simp [List.mem_append]
    have hc3 : (if decide (z ∈ ns.take i) = true then c else c + 1) ≤ i + 1 := by
      split <;> omega
    refine wpAny_pure ⟨plainId_quiet F.plain_set_update_loop _, ih (i + 1) _ (by omega) hlt (W.frame _ s' _ _ hst' (Nat.le_succ _) fun b hb o e => ?_) ⟨_, hc3, hS3⟩ fun s'' c2 hm'' hc'' hS'' => ?_⟩
    · rw [hsb.2 b (fun h : b = S => hSf (by rw [← h]; exact hb))]; exact e
    · refine hR s'' c2 (Moved.trans W.gtrans ((hm.mono hsub).then_heap (Nat.le_succ _) fun b o hb e => ?_) hm'') hc'' hS''
      rw [hsb.2 b (fun h : b = S => hb (by rw [h]; exact List.mem_cons_self))]; exact e

theorem code_set_ledS (a : Value) {Q₁ : Value → Shared → Prop}
    (h : Q₁ (.ref s.heap.objs.size) { s with heap := s.heap.push { cls := .type "set", dict := none, data := .set #[] 0 (.fresh 0 0 (!w.params.followText "set-order")) } }) :
    codeAny (model P w) A (.call (.builtin "set.__new__") ⟨[.type "set", a], []⟩) (wants Q₁ E) s := by
  refine codeAny_of_tree ?_
  show wpAny _ A.in1 (do checkBuiltinCall "set.__new__" ⟨[.type "set", a], []⟩; again (.builtin "set.__new__" ⟨[.type "set", a], []⟩)) _ _ s
  refine wpAny_bind (wpAny_of_eq (F.newCall_set_1 a) (wpAny_pure ⟨plainId_quiet F.plain_set_new _, codeAny_builtin F.entry_set_new ?_⟩))
  rw [Around.under_plainId F.plain_set_new _]
  unfold Builtin.«set.__new__» Builtin.Frozenset.newClass
  have hsub := sub_set_self
  obtain ⟨hp, g, d, tk, os⟩ := s
  dsimp only
  wp_walk
  refine wpAny_askSetting (wpAny_pure ?_)
  dsimp only
  simp only [newObj]
  refine wpAny_bind (wpAny_alloc (wpAny_pure ?_))
  exact wpAny_pure h

set_option maxRecDepth 100000 in
set_option maxHeartbeats 3200000 in
theorem call_set_strsL {l : Addr} {items : Array Value} (ns : List Str) {Q : Value → Shared → Prop} (hh : A.handled = none) (hl : s.heap.IsList l items) (hit : StrsAre items.toList ns) (hb : ns.length + 1 < scanBound)
    (h : ∀ (h' : Heap) (tk c : Nat), SetRS w h' s.heap.objs.size (fun j => decide (j ∈ ns)) c → c ≤ ns.length → (∀ b o, s.heap.get? b = some o → h'.get? b = some o) → Q (.ref s.heap.objs.size) { s with heap := h', toks := tk }) :
    wpAny (model P w) A (call (.type "set") [.ref l]) Q E s := by
  have hisz : items.size = ns.length := by
    have q := StrsAre.length hit
    rw [Array.length_toList] at q
    exact q
  obtain ⟨c, tl, hmro⟩ := F.called_set.mro
  have hmade := F.called_set.made
  have hsub := F.called_set.sub
  refine wpAny_call (codeAny_of_tree ?_)
  show wpAny _ _ (callAny (.type "set") _) _ _ _
  refine wpAny_pure ⟨Code.quiet_builtin _ (by decide +kernel), codeAny_builtin F.entry_type_call ?_⟩
  rw [Around.under_plain (weight_type_call_type "set" [.ref l] []) rfl]
  have h1 := F.called_set.notType
  have h2 := F.called_set.canCreate
  have hct := F.typeCall_set_1 (.ref l)
  repeat (any_goals (first | assumption | wp_step))

  refine codeAny_mono (code_set_ledS (.ref l) (E := E) (Q₁ := fun obj s₁ => obj = .ref s.heap.objs.size ∧ s₁ = { s with heap := s.heap.push { cls := .type "set", dict := none, data := .set #[] 0 (.fresh 0 0 (!w.params.followText "set-order")) } }) ⟨rfl, rfl⟩) fun r s₁ hr => ?_
  cases r with
  | error e => exact hr
  | ok fl =>
    cases fl with
    | ret obj =>
      obtain ⟨rfl, rfl⟩ := hr
      have hS : (s.heap.push { cls := .type "set", dict := none, data := .set #[] 0 (.fresh 0 0 (!w.params.followText "set-order")) }).get? s.heap.objs.size = some { cls := .type "set", dict := none, data := .set #[] 0 (.fresh 0 0 (!w.params.followText "set-order")) } := Heap.get?_push_size _ rfl
      have hT : Shared.TypeIs { s with heap := s.heap.push { cls := .type "set", dict := none, data := .set #[] 0 (.fresh 0 0 (!w.params.followText "set-order")) } } (.ref s.heap.objs.size) "set" := ⟨_, hS, rfl⟩
      have hli := F.called_set.init.lookup
      have hbi := F.called_set.init.bind (.ref s.heap.objs.size)
      repeat (any_goals (first | assumption | wp_step))

      refine codeAny_mono (codeAny_call_builtin (R := wants (fun r s₂ => r = .none ∧ ∃ h' tk c, s₂ = { s with heap := h', toks := tk } ∧ SetRS w h' s.heap.objs.size (fun j => decide (j ∈ ns)) c ∧ c ≤ ns.length ∧
          (∀ b o, s.heap.get? b = some o → h'.get? b = some o)) E) F.called_set.init.plain F.entry_set_init (check_set_init_1 hT ?_)) fun r₂ s₂ hr₂ => ?_
      · obtain ⟨ol, hol, hcl, nl, hdl⟩ := hl
        obtain ⟨ocls, odict, odata, oslots⟩ := ol
        simp only at hcl hdl
        subst hcl; subst hdl
        have hol' : (s.heap.push { cls := .type "set", dict := none, data := .set #[] 0 (.fresh 0 0 (!w.params.followText "set-order")) }).get? l = some { cls := .type "list", dict := odict, data := .seq items nl, slots := oslots } := Heap.get?_push_of_some _ hol
        have hsls := F.sub_list_set
        have hslf := F.sub_list_frozenset
        have hne : (Value.type "list" == Value.type "dict") = false := by decide
        have hl1 : (s.heap.push { cls := .type "set", dict := none, data := .set #[] 0 (.fresh 0 0 (!w.params.followText "set-order")) }).IsList l items := ⟨_, hol', rfl, nl, rfl⟩
        unfold Builtin.«set.__init__» noKeywords Builtin.Frozenset.updateFrom
        generalize hPI : pyIter = PI
        wp_walk
        subst hPI

        refine wpAny_pyIter_list hl1 ?_
        refine wpAny_bind (wpAny_runValue ?_)
        have hlS : l < s.heap.objs.size := Heap.lt_size hol
        have hh3 : A.in1.in1.in1.handled = none := by simp [hh]
        have hz1 : (s.heap.push { cls := .type "set", dict := none, data := .set #[] 0 (.fresh 0 0 (!w.params.followText "set-order")) }).objs.size = s.heap.objs.size + 1 := Heap.size_push ..
        have hneI : l ≠ (s.heap.push { cls := .type "set", dict := none, data := .set #[] 0 (.fresh 0 0 (!w.params.followText "set-order")) }).objs.size := by
          rw [Heap.size_push]; exact Nat.ne_of_lt (Nat.lt_succ_of_lt hlS)
        have hSf : s.heap.objs.size ∉ [(s.heap.push { cls := .type "set", dict := none, data := .set #[] 0 (.fresh 0 0 (!w.params.followText "set-order")) }).objs.size, l] := by
          rw [Heap.size_push]; simp only [List.mem_cons, List.mem_singleton, List.not_mem_nil, or_false, not_or]
          exact ⟨Nat.ne_of_lt (Nat.lt_succ_self _), Nat.ne_of_gt hlS⟩
        have hval : ∀ (i : Nat) (v : Value), items[i]? = some v → ∃ k t, ns[i]? = some k ∧ v = .str k t := fun i v hv => by
          have hi : i < ns.length := by rw [← hisz]; exact (Array.getElem?_eq_some_iff.mp hv).1
          obtain ⟨t, e⟩ := SS.strs_at hit i v (by rw [Array.getElem?_toList]; exact hv)
          refine ⟨ns[i], t, List.getElem?_eq_getElem hi, ?_⟩
          rw [e, List.getD_eq_getElem?_getD, List.getElem?_eq_getElem hi] <;> rfl
        refine set_update_strs ((Walks.list hh3 _ l hneI items).toS) s.heap.objs.size
          hSf ns hisz hb hval (items.size - 0) 0 _ (by omega) (Nat.zero_le _)
          ⟨⟨_, Heap.get?_push_size _ rfl, rfl, rfl⟩, (hl1.push _)⟩ ?hS0 ?hR
        case hS0 =>
          have hget : ((s.heap.push { cls := .type "set", dict := none, data := .set #[] 0 (.fresh 0 0 (!w.params.followText "set-order")) }).push { cls := .type "list_iterator", data := .fields #[.ref l, .int 0 0] }).get? s.heap.objs.size
              = some { cls := .type "set", dict := none, data := .set #[] 0 (.fresh 0 0 (!w.params.followText "set-order")) } := Heap.get?_push_of_some _ hS
          exact ⟨0, Nat.le_refl 0, setS_new_at hget⟩
        case hR =>
          intro s' c' hm hc' hS'
          obtain ⟨h', g2, d', tk', os'⟩ := s'
          have eg : g2 = s.gens := hm.gens
          have ed : d' = s.drawn := hm.drawn
          have eo : os' = s.os := hm.os
          subst eg; subst ed; subst eo
          show wpAny _ _ _ _ _ _
          refine wpAny_pure ?_
          show wpAny _ _ (ret Value.none) _ _ _
          rw [hisz] at hc'
          refine wpAny_pure ⟨rfl, h', tk', c', rfl, hS', hc', fun b o e => ?_⟩
          have hb0 : b < s.heap.objs.size := Heap.lt_size e
          have hb1 : b ≠ s.heap.objs.size := Nat.ne_of_lt hb0
          have hb2 : b ≠ (s.heap.push { cls := .type "set", dict := none, data := .set #[] 0 (.fresh 0 0 (!w.params.followText "set-order")) }).objs.size := by
            rw [Heap.size_push]; exact Nat.ne_of_lt (Nat.lt_succ_of_lt hb0)
          exact hm.heap b o (by simp only [List.mem_cons, List.mem_singleton, List.not_mem_nil, or_false, not_or]; exact ⟨hb1, hb2⟩) (Heap.get?_push_of_some _ (Heap.get?_push_of_some _ e))

      · cases r₂ with
        | error e => exact hr₂
        | ok fl₂ =>
          cases fl₂ with
          | ret r =>
            obtain ⟨rfl, h', tk, c', rfl, hS', hc', hk'⟩ := hr₂
            repeat (any_goals (first | assumption | wp_step))
            exact h _ _ _ hS' hc' hk'
          | _ => exact hr₂.elim
    | _ => exact hr.elim

end

section
variable {P : Program} {w : World} {A : Around} {E : Value → Shared → Prop} {s : Shared} {a : Addr} {es : Array (Int × Value)} {ep : Nat} {t : SetTable}
theorem sorted_setS {S : Str → Bool} {n : Nat} {Q : Value → Shared → Prop} (R : SetRS w s.heap a S n) (hh : A.handled = none) (h64 : n < 64)
    (hQ : ∀ s' p (out : Array Value) (c : Nat) (ns : List Str), (∀ b o, s.heap.get? b = some o → s'.heap.get? b = some o) → s'.gens = s.gens → s'.os = s.os → s.heap.objs.size ≤ p →
      s'.heap.get? p = some (seqObj "list" out c) → StrsAre out.toList ns → sortedS ns = true → ns.Nodup → (∀ k, k ∈ ns ↔ S k = true) → ns.length = n → Q (.ref p) s') :
    wpAny (model P w) A (call (.builtin "sorted") [.ref a]) Q E s := by
  obtain ⟨o, es, ep, t, ho, hex, hd, g, nd, hm, hb, hf, hn, hr, hl⟩ := R
  refine Calls.call_function_entry kind_sorted plain_sorted entry_sorted (args_sorted1 _) ?_
  unfold Builtin.«sorted»
  refine wpAny_bind (m := checkCount "sorted" 1 1 _) (wpAny_pure ?_)
  refine wpAny_bind (collect_set (A := A.in1) hh ⟨o, ho, hex.1, hd⟩ hf hb hr hl fun s1 vs k1 hz g1 o1 pm => ?_)
  have hvl : vs.length = n := by rw [pm.length_eq, List.length_map, Array.length_toList]; exact hn
  have hI : StrsAre vs (vs.map strOf) := strsAre_map vs fun v hv => by
    obtain ⟨e, he, q⟩ := List.mem_map.mp (pm.mem_iff.mp hv)
    obtain ⟨k, tk, h1, _⟩ := g e he
    exact ⟨k, tk, by rw [← q]; exact h1⟩
  have pk : (vs.map strOf).Perm (es.toList.map keyS) := by
    have q := pm.map strOf
    rw [List.map_map] at q
    exact q
  refine wpAny_bind (wpAny_newList ?_ (by rw [hvl, sizeLine_eq]; omega))
  have hoL : (s1.heap.push (seqObj "list" vs.toArray 0)).get? s1.heap.objs.size = some (seqObj "list" vs.toArray 0) := Heap.get?_push_size _ rfl
  refine wpAny_bind (wpAny_holding (wpAny_call_entry slot_list_sort ⟨_, hoL, rfl⟩ entry_list_sort (list_sort_treeK strKind_oneLt hoL hI.keysOf (fun v₁ v₂ rest e => keyKind_strs (by rw [← e]; exact hI)) (by rw [hvl]; exact h64) fun st' a1 a2 => ⟨_, rfl, ?_⟩) (args_list_sort _)))
  obtain ⟨ns', b1, b2, b3⟩ := sorted_out_str hI a1 a2
  obtain ⟨c, hc⟩ := sortedHeap_at (vs := vs) (out := (arrOf st').map (·.2)) hoL
  have pn : ns'.Perm (es.toList.map keyS) := b2.trans pk
  refine wpAny_pure ⟨_, rfl, hQ _ s1.heap.objs.size _ c ns' (fun b u e => ?_) g1 o1 hz hc b1 b3 (pn.nodup_iff.mpr nd) (fun k => by rw [pn.mem_iff, ← hm k]) ?_⟩
  · have q := k1 b u e
    have hlt := Heap.lt_size q
    show (sortedHeap (s1.heap.push (seqObj "list" vs.toArray 0)) s1.heap.objs.size vs ((arrOf st').map (·.2))).get? b = some u
    rw [sortedHeap_old (Nat.ne_of_lt hlt) (by rw [size_push']; exact Nat.lt_succ_of_lt hlt)]
    exact Heap.get?_push_of_some _ q
  · rw [pn.length_eq, List.length_map, Array.length_toList]; exact hn
end
section
variable {X : Cx}
/-- sorted(set(xs)), xs a list of fewer than 64 texts -/
def tSortSet (K : PySem.W.Frag) (ta : TE) : TE := fun σ H Q => ta σ H fun x H1 => ∃ l, ∃ xs : List Str, x = .ref l ∧ SqL K H1 l (xs.map V.str) ∧ xs.length < 64 ∧
  ∀ (ys : List Str) (p : Addr), sortedS ys = true → ys.Nodup → (∀ k, k ∈ ys ↔ k ∈ xs) → H1 p = none → Q (.ref p) (upd H1 p (.lst (ys.map V.str)))
theorem pe_sortSet {a : Expr} {ta : TE} {p p2 q pos : Pos} (hc : X.calm = true) (hg : Gl X "sorted") (hm : X.mg "sorted" = none) (hg2 : Gl X "set") (hm2 : X.mg "set" = none) (ha : PE X a ta)
    (na0 : starEach [.Call (.Name "set" p2) [a] [] q] X.env = (false, eval (.Call (.Name "set" p2) [a] [] q) X.env) :: starEach [] X.env := by rfl)
    (na : starEach [a] X.env = (false, eval a X.env) :: starEach [] X.env := by rfl) : PE X (.Call (.Name "sorted" p) [.Call (.Name "set" p2) [a] [] q] [] pos) (tSortSet X.K ta) := by
  refine ⟨fun pins s σ H Q I h => ?_⟩
  refine Call_ (ld_blt I hg hm boot_sorted ?_)
  refine PyProof.Rows.callWith_builtin1 (PyProof.Rows.args_cons ?_ na0) na0 rfl
  refine Call_ (ld_blt I hg2 hm2 boot_set ?_)
  refine PyProof.Rows.callWith_type1 (PyProof.Rows.args_cons (thn (ha.run pins s σ H _ I h) fun v s1 ⟨x, H1, I1, r1, q1⟩ => PyProof.Rows.args_nil ?_) na) na rfl
  obtain ⟨l, xs, rfl, hq, h1, q1⟩ := q1
  cases r1
  obtain ⟨its, r, pl, hz⟩ := I1.list hq
  have hxl : xs.length = its.length := by have := r.length; rwa [List.length_map] at this
  refine call_set_strsL xs (I1.ok.hd hc) pl.isList (by simpa using strsAre_of r) (by unfold scanBound; omega) fun h' tk c hS hcl hk => ?_
  refine PyProof.Rows.args_nil ?_
  have I2 : Inv X pins σ H1 { s1 with heap := h', toks := tk } := I1.kept fun b o e => hk b o e
  have hN1 : H1 s1.heap.objs.size = none := I1.hok.fresh (Nat.le_refl _)
  refine sorted_setS (s := { s1 with heap := h', toks := tk }) hS (I2.ok.hd hc) (by omega) fun s' p out c' ns k g o hp hg' hi hs nd hm hl => ?_
  have hlen : (ns.map V.str).length ≤ sizeLine := by rw [List.length_map, hl, sizeLine_eq]; omega
  have hn : H1 p = none := I2.hok.fresh hp
  have J : Inv X pins σ (upd H1 p (.lst (ns.map V.str))) { ({ s1 with heap := h', toks := tk } : Shared) with heap := s'.heap, gens := s'.gens, drawn := s'.drawn, toks := s'.toks } :=
    I2.call (ch := []) (Un.laid k hp hn) (I2.hok.laid k hp ⟨hlen, out.toList, c', vals_of_strs hi, hg'⟩) (by rw [g]; exact I2.bare) (fun _ z => nomatch z)
  have e : s' = { s1 with heap := s'.heap, gens := s'.gens, drawn := s'.drawn, toks := s'.toks } := by
    obtain ⟨h2, g2, d2, t2, o2⟩ := s'
    simp only [Shared.mk.injEq]
    exact ⟨trivial, trivial, trivial, trivial, o⟩
  rw [e]
  exact ⟨.ref p, _, J, rfl, q1 ns p hs nd (fun k' => by rw [hm k', decide_eq_true_eq]) hn⟩
end
end L2

set_option Elab.async false
set_option linter.all false
set_option maxRecDepth 100000
set_option maxHeartbeats 4000000
namespace DL
open PySem L2
/-! ### texts in order -/
def ltS (a b : Str) : Bool := PySem.Spec.ltCps a.cps.toList b.cps.toList
theorem ltC_irr : ∀ a : List Nat, PySem.Spec.ltCps a a = false
  | [] => rfl
  | x :: r => by simp [PySem.Spec.ltCps, ltC_irr r]
theorem ltC_trans : ∀ {a b c : List Nat}, PySem.Spec.ltCps a b = true → PySem.Spec.ltCps b c = true → PySem.Spec.ltCps a c = true
  | [], [], _, h, _ => by cases h
  | [], _ :: _, [], _, h => by cases h
  | [], _ :: _, _ :: _, _, _ => rfl
  | _ :: _, [], _, h, _ => by cases h
  | _ :: _, _ :: _, [], _, h => by cases h
  | x :: r, y :: s, z :: t, h1, h2 => by
    simp only [PySem.Spec.ltCps, Bool.or_eq_true, decide_eq_true_eq, Bool.and_eq_true, beq_iff_eq] at h1 h2 ⊢
    rcases h1 with h1 | ⟨h1, h3⟩ <;> rcases h2 with h2 | ⟨h2, h4⟩
    · exact .inl (by omega)
    · exact .inl (by omega)
    · exact .inl (by omega)
    · exact .inr ⟨h1.trans h2, ltC_trans h3 h4⟩
theorem ltC_tri : ∀ {a b : List Nat}, PySem.Spec.ltCps a b = false → PySem.Spec.ltCps b a = false → a = b
  | [], [], _, _ => rfl
  | [], _ :: _, h, _ => by cases h
  | _ :: _, [], _, h => by cases h
  | x :: r, y :: s, h1, h2 => by
    simp only [PySem.Spec.ltCps, Bool.or_eq_false_iff, decide_eq_false_iff_not, Bool.and_eq_false_iff, beq_eq_false_iff_ne] at h1 h2
    have e : x = y := by omega
    subst e
    have h3 : PySem.Spec.ltCps r s = false := h1.2.resolve_left (fun z => z rfl)
    have h4 : PySem.Spec.ltCps s r = false := h2.2.resolve_left (fun z => z rfl)
    rw [ltC_tri h3 h4]
theorem str_ext {a b : Str} (h : a.cps.toList = b.cps.toList) : a = b := by
  obtain ⟨⟨l⟩⟩ := a
  obtain ⟨⟨m⟩⟩ := b
  have h : l = m := h
  rw [h]
theorem ltS_irr (a : Str) : ltS a a = false := ltC_irr _
theorem ltS_trans {a b c : Str} (h : ltS a b = true) (k : ltS b c = true) : ltS a c = true := ltC_trans h k
theorem ltS_tri {a b : Str} (h : ltS a b = false) (k : ltS b a = false) : a = b := str_ext (ltC_tri h k)
def insS (x : Str) : List Str → List Str
  | [] => [x]
  | y :: r => if ltS x y then x :: y :: r else if x = y then y :: r else y :: insS x r
/-- the distinct ones, in order -/
def sortU : List Str → List Str
  | [] => []
  | x :: r => insS x (sortU r)
theorem insS_mem {x k : Str} : ∀ {l : List Str}, k ∈ insS x l ↔ k = x ∨ k ∈ l
  | [] => by simp [insS]
  | y :: r => by
    unfold insS
    split
    · simp
    · split
      · rename_i e
        subst e
        simp
      · rw [List.mem_cons, insS_mem (l := r), List.mem_cons]
        constructor
        · rintro (h | h | h)
          · exact .inr (.inl h)
          · exact .inl h
          · exact .inr (.inr h)
        · rintro (h | h | h)
          · exact .inr (.inl h)
          · exact .inl h
          · exact .inr (.inr h)
theorem sortU_mem {k : Str} : ∀ {l : List Str}, k ∈ sortU l ↔ k ∈ l
  | [] => by simp [sortU]
  | x :: r => by rw [sortU, insS_mem, sortU_mem (l := r), List.mem_cons]
theorem insS_pw {x : Str} : ∀ {l : List Str}, l.Pairwise (fun a b => ltS a b = true) → (insS x l).Pairwise (fun a b => ltS a b = true)
  | [], _ => by simp [insS]
  | y :: r, h => by
    unfold insS
    obtain ⟨h1, h2⟩ := List.pairwise_cons.mp h
    split
    · rename_i hxy
      refine List.pairwise_cons.mpr ⟨fun z hz => ?_, h⟩
      rcases List.mem_cons.mp hz with rfl | hz
      · exact hxy
      · exact ltS_trans hxy (h1 z hz)
    · split
      · exact h
      · rename_i n1 n2
        refine List.pairwise_cons.mpr ⟨fun z hz => ?_, insS_pw h2⟩
        rcases insS_mem.mp hz with rfl | hz
        · cases hq : ltS y z with
          | true => rfl
          | false => exact absurd (ltS_tri (by simpa using n1) hq) n2
        · exact h1 z hz
theorem sortU_pw : ∀ (l : List Str), (sortU l).Pairwise (fun a b => ltS a b = true)
  | [] => by simp [sortU]
  | x :: r => insS_pw (sortU_pw r)
theorem pw_uniq : ∀ {l m : List Str}, l.Pairwise (fun a b => ltS a b = true) → m.Pairwise (fun a b => ltS a b = true) → (∀ k, k ∈ l ↔ k ∈ m) → l = m
  | [], [], _, _, _ => rfl
  | [], y :: m, _, _, h => by have := (h y).mpr (by simp); simp at this
  | x :: l, [], _, _, h => by have := (h x).mp (by simp); simp at this
  | x :: l, y :: m, h1, h2, h => by
    obtain ⟨a1, a2⟩ := List.pairwise_cons.mp h1
    obtain ⟨b1, b2⟩ := List.pairwise_cons.mp h2
    have irr : ∀ {z}, ltS z z = true → False := fun {z} q => by rw [ltS_irr] at q; cases q
    have e : x = y := by
      rcases List.mem_cons.mp ((h x).mp (by simp)) with e | e
      · exact e
      · rcases List.mem_cons.mp ((h y).mpr (by simp)) with f | f
        · exact f.symm
        · exact (irr (ltS_trans (a1 y f) (b1 x e))).elim
    subst e
    rw [pw_uniq a2 b2 fun k => ?_]
    constructor
    · intro hk
      rcases List.mem_cons.mp ((h k).mp (List.mem_cons_of_mem _ hk)) with e | e
      · subst e; exact (irr (a1 k hk)).elim
      · exact e
    · intro hk
      rcases List.mem_cons.mp ((h k).mpr (List.mem_cons_of_mem _ hk)) with e | e
      · subst e; exact (irr (b1 k hk)).elim
      · exact e
theorem rising_pw : ∀ {l : List Str} {p : Str}, PyProof.Rows.risingS p l = true → (p :: l).Nodup → (p :: l).Pairwise (fun a b => ltS a b = true)
  | [], p, _, _ => by simp
  | x :: r, p, h, nd => by
    have h' : (!PySem.Spec.ltCps x.cps.toList p.cps.toList && PyProof.Rows.risingS x r) = true := h
    rw [Bool.and_eq_true] at h'
    obtain ⟨n1, n2⟩ := List.nodup_cons.mp nd
    have ih := rising_pw h'.2 n2
    have hpx : ltS p x = true := by
      cases q : ltS p x with
      | true => rfl
      | false =>
        have q2 : ltS x p = false := by simpa [ltS] using h'.1
        exact absurd (by rw [ltS_tri q q2]; simp) n1
    refine List.pairwise_cons.mpr ⟨fun z hz => ?_, ih⟩
    rcases List.mem_cons.mp hz with rfl | hz
    · exact hpx
    · exact ltS_trans hpx ((List.pairwise_cons.mp ih).1 z hz)
theorem sorted_pw {l : List Str} (h : PyProof.Rows.sortedS l = true) (nd : l.Nodup) : l.Pairwise (fun a b => ltS a b = true) := by
  cases l with
  | nil => simp
  | cons x r => exact rising_pw h nd
theorem sortU_of {ys xs : List Str} (h : PyProof.Rows.sortedS ys = true) (nd : ys.Nodup) (m : ∀ k, k ∈ ys ↔ k ∈ xs) : ys = sortU xs :=
  pw_uniq (sorted_pw h nd) (sortU_pw xs) fun k => (m k).trans sortU_mem.symm
theorem sortU_congr {xs ys : List Str} (m : ∀ k, k ∈ xs ↔ k ∈ ys) : sortU xs = sortU ys := pw_uniq (sortU_pw _) (sortU_pw _) fun k => by rw [sortU_mem, sortU_mem, m k]
def strD : Dat → Option Str
  | .str x => some x
  | _ => none
def strsD : List Dat → Option (List Str)
  | [] => some []
  | d :: r => (strD d).bind fun x => (strsD r).bind fun l => some (x :: l)
theorem strsD_some : ∀ {l : List Dat} {xs : List Str}, strsD l = some xs → l = xs.map PyData.str
  | [], _, h => by cases h; rfl
  | d :: r, _, h => by
    obtain ⟨x, e1, h⟩ := Option.bind_eq_some_iff.mp h
    obtain ⟨l, e2, h⟩ := Option.bind_eq_some_iff.mp h
    cases h
    cases d <;> simp only [strD, reduceCtorEq] at e1
    cases e1
    rw [strsD_some e2, List.map_cons]
theorem strsD_map : ∀ (xs : List Str), strsD (xs.map PyData.str) = some xs
  | [] => rfl
  | x :: r => by simp [strsD, strD, strsD_map r]
section
variable [TabsC]
theorem ReachF.growN {K : PySem.W.Frag} {B : Base} {Hf H H1 : Hp} {σ : St} {Γ : Env} {f : Nat → List Addr} {ps : List Pend} (R : ReachF K B Hf H σ Γ f ps) (e : LamX.ExtN H H1) (t : LamX.Tabs TabsC.tabs H1) : ReachF K B Hf H1 σ Γ f ps := by
  have kk : ∀ b, H b ≠ none → (∀ u, H b = some u → NT u) → H1 b = H b := fun b h1 h2 => by
    cases q : H b with
    | none => exact absurd q h1
    | some u => exact e b u q (h2 u q)
  refine ⟨R.len, fun b u q => e b u (R.sub b u q) (R.tab.1 b u q), fun i g hi => (R.slot i g hi).stay (fun b hb => kk b (R.off i b hb).2 (R.nt i b hb)) (Evl.Ex.refl _) fun b hb => (R.off i b hb).1, R.out, R.disj,
    fun p hp => (R.pend p hp).stay (fun b hb => kk b (R.poff hp b hb).2 (R.pnt hp b hb)) (Evl.Ex.refl _) fun b hb => (R.poff hp b hb).1, R.pdis, R.psl, R.ex, fun a o h1 h2 h3 => e a o (R.keep a o h1 h2 h3) h3,
    fun a o h1 h2 => ?_, R.new, R.own, R.pown, R.tab.1, t⟩
  obtain ⟨u, h3, h4⟩ := R.dom a o h1 h2
  exact ⟨u, e a u h3 h4, h4⟩
end
/-! ### {k: v for ..} -/
def keyOfD : Dat → Option Key
  | .int i => some (.inl i)
  | .str x => some (.inr x)
  | _ => none
theorem keyOfD_some {d : Dat} {k : Key} (h : keyOfD d = some k) : d = keyD k := by
  cases d <;> simp only [keyOfD, Option.some.injEq, reduceCtorEq] at h <;> subst h <;> rfl
def putD : List (Key × Dat) → Key → Dat → List (Key × Dat)
  | [], k, d => [(k, d)]
  | p :: r, k, d => if p.1 = k then (k, d) :: r else p :: putD r k d
def pairsD (l : List (Key × Dat)) : List (Dat × Dat) := l.map fun p => (keyD p.1, p.2)
section
variable {K : PySem.W.Frag} {H : Hp}
theorem kV_key {k : Key} {d : Dat} (h : d = keyD k) {v : V} (q : Den K H v d) : v = kV k := by
  cases k with
  | inl i => subst h; cases q; rfl
  | inr x => subst h; cases q; rfl
theorem putK_cons {p : Key × V} {r : List (Key × V)} {k : Key} {v : V} (nd : ((p :: r).map (·.1)).Nodup) : putK (p :: r) k v = if p.1 = k then (k, v) :: r else p :: putK r k v := by
  unfold putK
  by_cases h : p.1 = k
  · rw [if_pos (by simp [h]), if_pos h]
    rw [List.map_cons, if_pos h]
    subst h
    congr 1
    rw [List.map_cons, List.nodup_cons] at nd
    have : r.map (fun kv => if kv.1 = p.1 then (kv.1, v) else kv) = r.map id := List.map_congr_left fun z hz => by
      rw [if_neg fun e => nd.1 (by rw [← e]; exact List.mem_map.mpr ⟨z, hz, rfl⟩)]
      rfl
    rw [this, List.map_id]
  · rw [if_neg h]
    by_cases q : (r.any fun kv => decide (kv.1 = k)) = true
    · rw [if_pos (by simpa [h] using q), if_pos q, List.map_cons, if_neg h]
    · rw [if_neg (by simpa [h] using q), if_neg q, List.cons_append]
theorem denK_keys : ∀ {kvs : List (Key × V)} {acc : List (Key × Dat)}, DenK K H kvs (pairsD acc) → kvs.map (·.1) = acc.map (·.1)
  | [], [], _ => rfl
  | [], _ :: _, h => by cases h
  | _ :: _, [], h => by cases h
  | p :: r, q :: s, h => by
    unfold pairsD at h
    rw [List.map_cons] at h
    generalize he : keyD q.1 = kk at h
    cases h with
    | @cons k v _ d _ h1 h2 =>
      have e : k = q.1 := by
        cases k <;> cases hq : q.1 <;> rw [hq] at he <;> simp_all [keyD]
      rw [List.map_cons, List.map_cons, denK_keys h2, e]
theorem DenK.put : ∀ {kvs : List (Key × V)} {acc : List (Key × Dat)} {k : Key} {v : V} {d : Dat}, DenK K H kvs (pairsD acc) → (acc.map (·.1)).Nodup → Den K H v d → DenK K H (putK kvs k v) (pairsD (putD acc k d))
  | [], [], k, v, d, _, _, q => .cons q .nil
  | [], _ :: _, _, _, _, h, _, _ => by cases h
  | _ :: _, [], _, _, _, h, _, _ => by cases h
  | p :: r, z :: s, k, v, d, h, nd, q => by
    have ks := denK_keys h
    have nd' : ((p :: r).map (·.1)).Nodup := by rw [ks]; exact nd
    rw [putK_cons nd']
    rw [List.map_cons, List.map_cons, List.cons.injEq] at ks
    have h' : DenK K H (p :: r) ((keyD z.1, z.2) :: pairsD s) := h
    have hd : Den K H p.2 z.2 ∧ DenK K H r (pairsD s) := by
      generalize keyD z.1 = kk at h'
      cases h' with
      | cons h1 h2 => exact ⟨h1, h2⟩
    rw [putD, ← ks.1]
    by_cases e : p.1 = k
    · rw [if_pos e, if_pos e]
      exact .cons q hd.2
    · rw [if_neg e, if_neg e]
      have ih := DenK.put hd.2 (List.nodup_cons.mp nd).2 q (k := k)
      have e2 : pairsD (z :: putD s k d) = (keyD p.1, z.2) :: pairsD (putD s k d) := by unfold pairsD; rw [List.map_cons, ks.1]
      rw [e2]
      exact .cons hd.1 ih
theorem putD_keys {k : Key} {d : Dat} {x : Key} : ∀ {acc : List (Key × Dat)}, x ∈ (putD acc k d).map (·.1) ↔ x = k ∨ x ∈ acc.map (·.1)
  | [] => by simp [putD]
  | p :: r => by
    rw [putD]
    by_cases e : p.1 = k
    · rw [if_pos e, List.map_cons, List.map_cons, List.mem_cons, List.mem_cons, e]
      constructor
      · rintro (h | h)
        · exact .inl h
        · exact .inr (.inr h)
      · rintro (h | h | h)
        · exact .inl h
        · exact .inl h
        · exact .inr h
    · rw [if_neg e, List.map_cons, List.map_cons, List.mem_cons, List.mem_cons, putD_keys (acc := r)]
      constructor
      · rintro (h | h | h)
        · exact .inr (.inl h)
        · exact .inl h
        · exact .inr (.inr h)
      · rintro (h | h | h)
        · exact .inr (.inl h)
        · exact .inl h
        · exact .inr (.inr h)
theorem putD_nodup {k : Key} {d : Dat} : ∀ {acc : List (Key × Dat)}, (acc.map (·.1)).Nodup → ((putD acc k d).map (·.1)).Nodup
  | [], _ => by simp [putD]
  | p :: r, nd => by
    rw [putD]
    rw [List.map_cons, List.nodup_cons] at nd
    by_cases e : p.1 = k
    · rw [if_pos e, List.map_cons, List.nodup_cons, ← e]; exact nd
    · rw [if_neg e, List.map_cons, List.nodup_cons]
      refine ⟨fun z => ?_, putD_nodup nd.2⟩
      rcases putD_keys.mp z with z | z
      · exact e z
      · exact nd.1 z
end
end DL

set_option Elab.async false
set_option linter.all false
set_option maxRecDepth 100000
set_option maxHeartbeats 4000000
namespace DL
open PySem L2
variable [TabsC]
section
variable {X : Cx} {K : PySem.W.Frag} {a b c e tg iter kx vx : Expr} {ma mb mc mk mv : M} {mt mu : MT} {mi : MI} {md : MD} {pos p : Pos} {j k n : Nat} {es ifs : List Expr} {g : MG} {scope : Scope} {own : List (Str × Nat)}
def dcL (g : MG) (mt : MT) (mk mv : M) (vs : List Nat) : List Dat → List (Key × Dat) → Env → Option (List (Key × Dat) × Env)
  | [], acc, Γ => some (acc, Γ)
  | x :: xs, acc, Γ => (g (.d x) Γ).bind fun Γ1 => (mt Γ1).bind fun p => if p.1 then
      (mk p.2).bind fun q => (settle q.2 q.1).bind fun s => (keyOfD s.1).bind fun k => (mv s.2).bind fun u => (settle u.2 u.1).bind fun t => if acc.length < lim then dcL g mt mk mv vs xs (putD acc k t.1) (wipeE t.2 vs) else none
    else dcL g mt mk mv vs xs acc (wipeE p.2 vs)
def mDcomp (mi : MI) (g : MG) (mt : MT) (mk mv : M) (vs : List Nat) : M := fun Γ => (mi Γ).bind fun p => if plainAt p.2 vs then
    (dcL g mt mk mv vs p.1 [] (wipeE p.2 vs)).bind fun q => some (.own (.dct (pairsD q.1)), putE q.2 p.2 vs) else none
theorem dc_imp {vs : List Nat} {σ : St} {H : Hp} {Q : VK} (h : tM K (mDcomp mi g mt mk mv vs) σ H Q) : tDc (tI K mi) (tG K vs g) (tT K mt) (tM K mk) (tM K mv) vs σ H Q := by
  obtain ⟨B, Hf, Γ, ps, r, Γ', R, e, kk⟩ := h
  obtain ⟨⟨items, Γ1⟩, e1, e⟩ := bindE e
  simp only at e
  split at e
  · rename_i hpl
    obtain ⟨⟨res, Γ2⟩, e2, e⟩ := bindE e
    cases e
    refine ⟨B, Hf, Γ, ps, items, Γ1, R, e1, fun J Hf1 H1 ⟨f1, R1⟩ hJ => ?_⟩
    intro D hD
    have RB := R1.base
    obtain ⟨fw, RW⟩ := (RB.newD (ds := []) (kvs := []) hD .nil).wiped (by intro p hp j z; simp only [List.mem_singleton] at hp; subst hp; cases z) vs
    refine ⟨fun i j H' => j = items.length - i ∧ i ≤ items.length ∧ ∃ Hf' Γi acc, (acc.map (·.1)).Nodup ∧ Reach K ⟨Hf1, H1, fun a => ∃ i, a ∈ f1 i⟩ Hf' H' (wipe σ vs) Γi [⟨.ref D, .own (.dct (pairsD acc)), [D]⟩] ∧ dcL g mt mk mv vs (items.drop i) acc Γi = some (res, Γ2),
      ⟨_, rfl, Nat.zero_le _, Hf1, _, [], List.nodup_nil, ⟨fw, RW⟩, e2⟩, ?_⟩
    rintro i j H2 ⟨rfl, hil, Hf2, Γi, acc, nd, ⟨f2, R2⟩, e3⟩
    have nbD : ∀ acc', NoBor [⟨.ref D, .own (.dct acc'), [D]⟩] := fun acc' p hp j z => by simp only [List.mem_singleton] at hp; subst hp; cases z
    by_cases hlt : i < items.length
    · have hx : items[i]? = some items[i] := by simp [hlt]
      obtain ⟨go, yl⟩ := (hJ Hf2 H2 R2.ex R2.sub i).1 _ hx
      rw [List.drop_eq_getElem_cons hlt] at e3
      obtain ⟨Γ3, e4, e3⟩ := bindE e3
      obtain ⟨⟨b5, Γ5⟩, e5, e3⟩ := bindE e3
      refine .inr ⟨go, fun H' => ∃ Hf' Γi acc, (acc.map (·.1)).Nodup ∧ Reach K ⟨Hf1, H1, fun a => ∃ i, a ∈ f1 i⟩ Hf' H' (wipe σ vs) Γi [⟨.ref D, .own (.dct (pairsD acc)), [D]⟩] ∧ dcL g mt mk mv vs (items.drop (i + 1)) acc Γi = some (res, Γ2), fun H' q => ⟨_, by omega, rfl, hlt, q⟩, fun x H' hy => ?_⟩
      obtain ⟨Hf3, _, R3⟩ := yld_ok ⟨f2, R2⟩ (yl x H' hy)
      refine ⟨_, Hf3, Γi, _, _, [], Γ3, R3, nbD _, e4, fun σ3 Hf4 l3 s3 _ R4 => ?_⟩
      have ew : wipe σ3 vs = wipe σ vs := by
        rw [wipe_stay l3 s3]
        exact wipe_stay (by rw [wipe_length]) fun j hj => wipe_get hj
      refine ⟨ew, _, Hf4, Γ3, _, b5, Γ5, R4, e5, fun Hf5 H5 R5 => ?_⟩
      cases b5 with
      | false =>
        simp only [Bool.false_eq_true, if_false] at e3 ⊢
        obtain ⟨f5, R5⟩ := R5
        have := R5.wiped (nbD _) vs
        rw [ew] at this
        exact ⟨Hf5, _, acc, nd, this, e3⟩
      | true =>
        simp only [if_true] at e3 ⊢
        obtain ⟨⟨s6, Γ6⟩, e6, e3⟩ := bindE e3
        obtain ⟨⟨d7, Γ7⟩, e7, e3⟩ := bindE e3
        obtain ⟨ky, e8, e3⟩ := bindE e3
        obtain ⟨⟨s9, Γ9⟩, e9, e3⟩ := bindE e3
        obtain ⟨⟨d10, Γ10⟩, e10, e3⟩ := bindE e3
        simp only at e3
        split at e3
        · rename_i hal
          refine ⟨_, Hf5, Γ5, _, s6, Γ6, R5, e6, fun y fp H6f H6 R6 => ?_⟩
          obtain ⟨Hf7, _, R7⟩ := R6.settle e7
          refine ⟨_, Hf7, Γ7, _, s9, Γ9, R7, e9, fun z fz Hf9 H9 R9 => ?_⟩
          obtain ⟨Hf10, _, f10, R10⟩ := R9.settle e10
          have dz := (R10.pend _ List.mem_cons_self).2
          have dy := (R10.pop.pend _ List.mem_cons_self).2
          have R11 := R10.pop.pop
          obtain ⟨a, ea, efp, hfD, accV, hDa, dacc⟩ : ∃ a, V.ref D = .ref a ∧ [D] = [a] ∧ Hf10 a = none ∧ ∃ xs, H9 a = some (.dK xs) ∧ DenK K Hf10 xs (pairsD acc) := (R11.pend _ List.mem_cons_self)
          cases ea
          have hl : accV.length = acc.length := by
            have := congrArg List.length (denK_keys dacc)
            rwa [List.length_map, List.length_map] at this
          refine ⟨accV, ky, kV_key (keyOfD_some e8) dy, hDa, by rw [hl]; exact Nat.lt_of_lt_of_le hal lim_le, ?_⟩
          have R12 := R11.writeP (o' := .dct (pairsD (putD acc ky d10))) (u := .dK (putK accV ky z)) ⟨rfl, hfD, _, upd_same, dacc.put nd dz⟩
          have := R12.wiped (nbD _) vs
          rw [ew] at this
          exact ⟨Hf10, _, _, putD_nodup nd, this, e3⟩
        · cases e3
    · have hie : i = items.length := by omega
      refine .inl ⟨(hJ Hf2 H2 R2.ex R2.sub i).2 hie, ?_⟩
      rw [hie, List.drop_length] at e3
      cases e3
      have hp : ∀ v ∈ vs, ∃ s, Γ1[v]? = some s ∧ plainS s = true := fun v hv => by
        have := List.all_eq_true.mp hpl v hv
        split at this
        · rename_i s hs; exact ⟨s, hs, this⟩
        · cases this
      obtain ⟨f3, R3⟩ := R2.remap (σ' := σ) (Γ' := putE Γ2 Γ1 vs) (by rw [wipe_length]) (putE_len _ _ _) (nbD _) fun i s h => by
        rcases putE_get h with ⟨q1, q2⟩ | ⟨q1, q2⟩
        · rcases q1 with q1 | q1
          · exact .inl ⟨q2, (wipe_get q1).symm⟩
          · by_cases hi : i ∈ vs
            · obtain ⟨s', hs', _⟩ := hp i hi
              rw [q1] at hs'
              cases hs'
            · exact .inl ⟨q2, (wipe_get hi).symm⟩
        · obtain ⟨s', hs', hpl'⟩ := hp i q1
          rw [q2] at hs'
          cases hs'
          have q := R1.slot i _ q2
          refine .inr ⟨?_, by intro o z; subst z; cases hpl'⟩
          cases s with
          | no => rfl
          | d x => obtain ⟨_, v, q3, q4⟩ := q; exact ⟨rfl, v, q3, q4.mono R2.ex⟩
          | fn a => exact ⟨rfl, q.2⟩
          | own o => cases hpl'
          | bor j => cases hpl'
      have R4 := R1.trans R3 (.inr rfl)
      exact kk (.ref D) [D] Hf2 H2 ⟨f3, R4⟩
  · cases e
theorem d_dc (hc : Cok k X) (hi : PI X tg iter (tI X.K mi)) (ok : BlkOk X.N X.env.scope scope own)
    (hg : ∀ (s : Shared) (H : Hp) (C : Addr) (cl : List (Str × Addr)) (fp : List Addr), PG (X.blk s H scope (compEnvC scope cl C X.env) fp) tg (tG X.K (own.map (·.2)) g))
    (ht : ∀ (s : Shared) (H : Hp) (C : Addr) (cl : List (Str × Addr)) (fp : List Addr), PTs (X.blk s H scope (compEnvC scope cl C X.env) fp) ifs (tT X.K mt))
    (hk : ∀ (s : Shared) (H : Hp) (C : Addr) (cl : List (Str × Addr)) (fp : List Addr), PE (X.blk s H scope (compEnvC scope cl C X.env) fp) kx (tM X.K mk))
    (he : ∀ (s : Shared) (H : Hp) (C : Addr) (cl : List (Str × Addr)) (fp : List Addr), PE (X.blk s H scope (compEnvC scope cl C X.env) fp) vx (tM X.K mv)) (hs : ∀ x, foldedSetIterable iter X.env x = pure x := by intro _; rfl) :
    PE X (.DictComp kx vx [⟨tg, iter, ifs, 0⟩] scope pos) (tM X.K (mDcomp mi g mt mk mv (own.map (·.2)))) := PE.imp (pe_dc hc.calm hc.nd hi ok hg ht hk he hs) fun _ _ _ => dc_imp
/-! ### sorted(dict of texts), sorted(set(texts)) -/
def keysS : List (Dat × Dat) → Option (List Str)
  | [] => some []
  | q :: r => (strD q.1).bind fun x => (keysS r).bind fun l => some (x :: l)
omit [TabsC] in
theorem keysS_den {H : Hp} : ∀ {ps : List (Dat × Dat)} {kvs : List (Key × V)} {ks : List Str}, keysS ps = some ks → DenK K H kvs ps → kvs.map (·.1) = ks.map Sum.inr
  | [], [], _, h, _ => by cases h; rfl
  | [], _ :: _, _, _, h => by cases h
  | _ :: _, [], _, _, h => by cases h
  | q :: r, p :: s, _, h, d => by
    obtain ⟨x, e1, h⟩ := Option.bind_eq_some_iff.mp h
    obtain ⟨l, e2, h⟩ := Option.bind_eq_some_iff.mp h
    cases h
    cases d with
    | @cons kq v _ d0 _ h1 h2 =>
      cases kq with
      | inl i => simp [keyD, strD] at e1
      | inr y =>
        simp only [keyD, strD, Option.some.injEq] at e1
        rw [List.map_cons, List.map_cons, keysS_den e2 h2, e1]
def gSortD : Slot → Env → Option (Slot × Env) := fun s Γ => (viewD Γ s).bind fun d => match d with
  | .dict ps => (keysS ps).bind fun ks => if ks.Nodup ∧ ks.length < 64 then some (.own (.lst ((sortU ks).map .str)), Γ) else none
  | _ => none
omit [TabsC] in
theorem dens_strs {H : Hp} : ∀ (l : List Str), Dens K H (l.map V.str) (l.map PyData.str)
  | [] => .nil
  | x :: r => .cons (.str x) (dens_strs r)
theorem d_sortD (c : Cok k X) (ha : PE X a (tM X.K ma)) (hm : X.mg "sorted" = none) (hg : Gl X "sorted" := by rfl) (h1 : starEach [a] X.env = (false, eval a X.env) :: starEach [] X.env := by rfl) : PE X (.Call (.Name "sorted" p) [a] [] pos) (tM X.K (mUn gSortD ma)) :=
  PE.imp (pe_callB (call_sortedD c.calm) hg hm PyProof.Rows.boot_sorted (pa_cons ha pa_nil h1) (he := h1)) fun σ H Q h => cb_imp (by
    intro B Hf H σ Γ ps x s fp res Γ' ⟨f, R⟩ e Q kk
    obtain ⟨d, e1, e⟩ := bindE e
    cases d <;> simp only [reduceCtorEq] at e
    obtain ⟨ks, e2, e⟩ := bindE e
    split at e
    · rename_i hn
      simp only [Option.some.injEq, Prod.mk.injEq] at e
      obtain ⟨rfl, rfl⟩ := e
      have dv := R.viewP (p := ⟨x, s, fp⟩) (by simp) e1
      simp only at dv
      cases dv with
      | @dct a0 kvs _ hr hk =>
        refine ⟨a0, kvs, ks, rfl, hr, keysS_den e2 hk, hn.2, fun ys q hp hs hq => ?_⟩
        have e3 : ys = sortU ks := sortU_of hs (hp.nodup_iff.mpr hn.1) fun z => hp.mem_iff
        subst e3
        exact kk _ _ _ _ ⟨f, R.pop.newL hq (dens_strs _)⟩
    · cases e) h
def gSortSet : Slot → Env → Option (Slot × Env) := fun s Γ => (viewD Γ s).bind fun d => match d with
  | .list l => (strsD l).bind fun xs => if xs.length < 64 then some (.own (.lst ((sortU xs).map .str)), Γ) else none
  | _ => none
theorem d_sortSet {p2 q0 : Pos} (c : Cok k X) (ha : PE X a (tM X.K ma)) (hm : X.mg "sorted" = none) (hm2 : X.mg "set" = none) (hg : Gl X "sorted" := by rfl) (hg2 : Gl X "set" := by rfl)
    (na0 : starEach [.Call (.Name "set" p2) [a] [] q0] X.env = (false, eval (.Call (.Name "set" p2) [a] [] q0) X.env) :: starEach [] X.env := by rfl) (na : starEach [a] X.env = (false, eval a X.env) :: starEach [] X.env := by rfl) :
    PE X (.Call (.Name "sorted" p) [.Call (.Name "set" p2) [a] [] q0] [] pos) (tM X.K (mUn gSortSet ma)) := PE.imp (pe_sortSet c.calm hg hm hg2 hm2 ha na0 na) fun σ H Q h => by
  obtain ⟨B, Hf, Γ, ps, r, Γ', R, e, kk⟩ := h
  obtain ⟨⟨s1, Γ1⟩, e1, e⟩ := bindE e
  obtain ⟨d, e2, e⟩ := bindE e
  refine ⟨B, Hf, Γ, ps, s1, Γ1, R, e1, fun x fp1 Hf1 H1 ⟨f, R1⟩ => ?_⟩
  cases d <;> simp only [reduceCtorEq] at e
  obtain ⟨xs, e3, e⟩ := bindE e
  split at e
  · rename_i hn
    simp only [Option.some.injEq, Prod.mk.injEq] at e
    obtain ⟨rfl, rfl⟩ := e
    obtain ⟨a1, vs, h1, q1, dx⟩ := R1.itemsP (p := ⟨x, s1, fp1⟩) (by simp) e2 rfl
    rw [strsD_some e3] at dx
    have := dx.strs
    subst this
    refine ⟨a1, xs, h1, .inl (by simpa using q1), hn, fun ys q hs nd hm2 hq => ?_⟩
    have e4 : ys = sortU xs := sortU_of hs nd hm2
    subst e4
    exact kk _ _ _ _ ⟨f, R1.pop.newL hq (dens_strs _)⟩
  · cases e
end
end DL

set_option Elab.async false
set_option linter.all false
set_option maxRecDepth 100000
set_option maxHeartbeats 4000000
namespace L2
open PySem PySem.Spec PyProof.Rows PySem.W
/-- (len(x), x) -/
abbrev lenPair (x : Str) (p1 p2 p3 p4 p5 : Pos) (j : Nat) : Expr := .Tuple [.Call (.Name "len" p1) [.Name x p2] [] p3, .Name x p4] j p5
/-- what the key of a tuple of ints is -/
def lotKey (l : List Int) : PyData := .tuple [.int l.length, .tuple (l.map PyData.int)]
theorem lot_alike (a b : List Int) : alike (lotKey a) (lotKey b) = true := by
  unfold lotKey
  simp [alike, alikeAll, alike_ints]
theorem lot_depth (a : List Int) : (lotKey a).depth ≤ 5 := by
  unfold lotKey
  simp [PyData.depth, PyData.depthAll, depth_ints]
section
variable {P : Program} {w : World} {A : Around} {E : Value → Shared → Prop} {s : Shared} {mg mb : Str → Option Value}
theorem len_tupX {t : Addr} {items : Array Value} {Q : Value → Shared → Prop} (ht : IsTup s.heap t items) (hfit : (items.size : Int) < 2 ^ 63) (h : ∀ tk u, Q (.int items.size u) { s with toks := tk }) :
    wpAny (model P w) A (call (.builtin "len") [.ref t]) Q E s := by
  exact len_tuple ht hfit (h _ _)
theorem key_run {x : Str} {p1 p2 p3 p4 p5 : Pos} {j : Nat} {env : Env} {L t : Addr} {items : Array Value} {m : Str → Option Value} {Q : Value → Shared → Prop} (hk : env.scope.kind = .function) (hl : env.kindOf x = some .local) (hL : env.locals = L) (hn : s.heap.Ns L m) (hm : m x = some (.ref t))
    (hg : env.kindOf "len" = some .globalImplicit) (hge : s.heap.Ns env.globals mg) (hgl : mg "len" = none) (hbe : s.heap.Ns env.builtins mb) (hbl : mb "len" = bootBuiltins "len") (ht : IsTup s.heap t items) (hz : (items.size : Int) < 2 ^ 63) (hd : (x == ("__debug__" : Str)) = false)
    (h : ∀ tk u, Q (.ref s.heap.objs.size) { s with heap := s.heap.push { cls := .type "tuple", data := .seq #[.int items.size u, .ref t] }, toks := tk }) :
    wpAny (model P w) A (eval (lenPair x p1 p2 p3 p4 p5 j) env) Q E s := by
  refine Tuple_ (args_cons (Call_ (Calls.Name_function_global hk hg (Calls.loadGlobal_builtin hge hgl hbe (hbl.trans boot_len) ?_) (by decide))) rfl)
  refine callWith_builtin1 (args_cons (wpAny_Name (wpAny_loadName_local hk hl (by rw [hL]; exact hn) hm ?_) hd) rfl) rfl rfl
  refine args_nil (len_tupX ht hz fun tk u => ?_)
  refine args_cons (wpAny_Name (wpAny_loadName_local hk hl (by rw [hL]; exact hn) hm ?_) hd) rfl
  refine args_nil (wpAny_newTuple ?_)
  exact h tk u
end
theorem readsInts {h : Heap} : ∀ {l : List Value} {b : List Int}, IntsAre l b → ReadsAll h l (b.map PyData.int) []
  | _, _, .nil => .nil
  | _, _, .cons n t r => by
    have q : ReadsAll h (.int n t :: _) (.int n :: _) ([] ++ []) := .cons (.int n t) (readsInts r)
    exact q
theorem eachTo {α β : Type} {R S : α → β → Prop} (h : ∀ a b, R a b → S a b) : ∀ {l : List α} {m : List β}, EachIs R l m → EachIs S l m
  | _, _, .nil => .nil
  | _, _, .cons q r => .cons (h _ _ q) (eachTo h r)
section
variable {X : Cx} {pins : List (Addr × Obj)} {σ : L2.St} {H : Hp} {s : Shared}
/-- a value that is a tuple of the ints b -/
def TupI (G : V → List Int → Prop) (K : PySem.W.Frag) (H : Hp) (v : V) (b : List Int) : Prop := ∃ t, v = .ref t ∧ SqT K H t (b.map V.int) ∧ G v b
def TupIV (G : V → List Int → Prop) (h : Heap) (K : PySem.W.Frag) (H : Hp) (u : Value) (b : List Int) : Prop := ∃ t, u = .ref t ∧ (SqT K H t (b.map V.int) ∧ G (.ref t) b) ∧ ∃ its : List Value, IsTup h t its.toArray ∧ IntsAre its b ∧ b.length ≤ sizeLine
theorem tupIV_of {G : V → List Int → Prop} (I : Inv X pins σ H s) : ∀ {xs : List V} {us : List Value} {bs : List (List Int)}, Vals xs us → EachIs (TupI G X.K H) xs bs → EachIs (TupIV G s.heap X.K H) us bs
  | _, _, _, .nil, .nil => .nil
  | _, _, _, .cons r rs, .cons q qs => by
    obtain ⟨t, rfl, hq⟩ := q
    cases r
    obtain ⟨its, rv, p, hz⟩ := I.tuple hq.1
    exact .cons ⟨t, rfl, hq, its, p, ints_of_vals rv, by rw [List.length_map] at hz; exact hz⟩ (tupIV_of I rs qs)
theorem tupIV_back {G : V → List Int → Prop} {h : Heap} {K : PySem.W.Frag} : ∀ {us : List Value} {bs : List (List Int)}, EachIs (TupIV G h K H) us bs → ∃ ys, Vals ys us ∧ EachIs (TupI G K H) ys bs
  | _, _, .nil => ⟨[], .nil, .nil⟩
  | _, _, .cons q qs => by
    obtain ⟨t, rfl, hq, _⟩ := q
    obtain ⟨ys, h1, h2⟩ := tupIV_back qs
    exact ⟨.ref t :: ys, .cons (show RelV (.ref t) (.ref t) from rfl) h1, .cons ⟨t, rfl, hq⟩ h2⟩
def tSortLen (T : List (Addr × Str)) (K : PySem.W.Frag) (ta : TE) : TE := fun σ H Q => ta σ H fun x H1 => LamX.Tabs T H1 ∧ ∀ H2, LamX.ExtN H1 H2 → LamX.Tabs T H2 → ∃ (G : V → List Int → Prop) (l : Addr) (xs : List V) (bs : List (List Int)), x = .ref l ∧ SqL K H2 l xs ∧ EachIs (TupI G K H2) xs bs ∧
  ∀ (ys : List V) (p : Addr), EachIs (TupI G K H2) ys (bs.mergeSort (dataLe false lotKey)) → H2 p = none → Q (.ref p) (upd H2 p (.lst ys))
theorem pe_sortLen {T : List (Addr × Str)} {c P : Addr} {a : Expr} {ta : TE} {x : Str} {params : Arguments} {scope : Scope} {p p1 p2 p3 p4 p5 lp kp pos : Pos} {j : Nat} (hc : X.calm = true) (hA : X.A.units + 64 < cLine) (hdp : X.A.depth + 5 < recursionLimit) (TB : LamX.TabB X.base X.mg c P) (hcode : X.env.code = .ref c)
    (hm : (P, X.env.qual ++ "<lambda>") ∈ T) (hu : ∀ p ∈ T, p.1 = P → p.2 = X.env.qual ++ "<lambda>") (hg : Gl X "sorted") (hms : X.mg "sorted" = none) (hml : X.mg "len" = none) (ha : PE X a ta)
    (hdef : defaultsOf params X.env = ([], []) := by rfl) (hfree : ∀ y ∈ scope.names, y.2 = .free → ∃ c, X.env.cells.lookup y.1 = some c := by decide +kernel) (hkd : scope.kind = .function := by rfl) (hco : scope.isCoroutine = false := by rfl) (hgen : scope.isGenerator = false := by rfl)
    (hcell : ∀ y ∈ scope.names, y.2 ≠ .cell := by decide +kernel) (hxl : scope.names.lookup x = some .local := by rfl) (hll : scope.names.lookup ("len" : Str) = some .globalImplicit := by rfl) (hd : (x == ("__debug__" : Str)) = false := by decide)
    (hbind : ∀ (cl : List (Str × Addr)) (pm cdv ctv v : Value), bindArgs (kla_fn "<lambda>" (X.env.qual ++ "<lambda>") params (lenPair x p1 p2 p3 p4 p5 j) scope cl pm cdv ctv) ⟨[v], []⟩ = pure [(x, v)] := by intro _ _ _ _ _; rfl)
    (he : backTo pos (starEach [a] X.env) = (false, eval a X.env) :: backTo pos (starEach [] X.env) := by rfl) (hpl : (backTo pos (starEach [a] X.env)).any (·.1) = false := by rfl) (na : starEach [a] X.env = (false, eval a X.env) :: starEach [] X.env := by rfl) :
    PE X (.Call (.Name "sorted" p) [a] [⟨some "key", .Lambda params (lenPair x p1 p2 p3 p4 p5 j) scope lp, kp⟩] pos) (tSortLen T X.K ta) := by
  refine ⟨fun pins s σ H Q I h => ?_⟩
  refine wpAny_Call_Name_kw (ld_blt I hg hms boot_sorted ?_ (by decide) (by decide))
  refine callWith_kw (args_cons (thn (ha.run pins s σ H _ I h) fun v s1 ⟨y, H1, I1, r1, hT, q1⟩ => args_nil ?_) na) he hpl
  show wpAny _ _ (evalAll [do let v ← eval (.Lambda params (lenPair x p1 p2 p3 p4 p5 j) scope lp) X.env; standAt pos; pure v]) _ _ s1
  refine wpAny_evalAll_cons (wpAny_bind (LamX.lam_make2 I1 TB hcode hm hu hT hdef hfree fun f c' pm ctv H2 s2 I2 eN hT2 hf hfn hfr hcc => wpAny_bind (wpAny_standAt (wpAny_pure (wpAny_evalAll_nil ?_)))))
  obtain ⟨G, l, xs, bs, rfl, hxs, hbs, q⟩ := q1 H2 eN hT2
  cases r1
  obtain ⟨its, rv, pl, hz⟩ := I2.list hxs
  have eV := tupIV_of I2 rv hbs
  have hlb : bs.length ≤ sizeLine := by rw [← eV.length, ← rv.length]; exact hz
  obtain ⟨⟨oc, cvs, ct, hoc, hdc, hvc⟩, _⟩ := I2.hok c' _ hcc
  show wpAny (model X.prog X.w) X.A (call (.builtin "sorted") [.ref l] [(Str.ofString "key", .ref f)]) _ _ s2
  refine sorted_key_data (s := s2) (R := TupIV G s2.heap X.K H2) (b := false) lotKey pl.isList eV (AllAlike.of lot_alike) (Sortable.tuples fun b => ⟨_, _, rfl⟩) hlb (fun b _ => by have := lot_depth b; omega) (ksk_s1 _ _) (fun z => by unfold argsOk; kernel_rfl) (fun z => ksk_t1 f z)
    (fun v b hR hb h tk kp => ?_) fun out cc h' tk kp hnone hout hlen eo => ?_
  · obtain ⟨t, rfl, hq, its2, ht, hi, hbl⟩ := hR
    have of1 := kp _ _ hf
    refine wpAny_call (kla_callFunE (by show X.A.depth < _; omega) of1 rfl hco hgen rfl ⟨c', oc, cvs, ct, rfl, kp _ _ hoc, hdc, hvc⟩ ?_)
    rw [hbind]
    refine wpAny_pure (wpAny_newFunctionEnv hcell (fun y hy => by rw [List.mem_singleton.mp hy]; exact hxl) (fun h₁ hns hsb => ⟨(I2.nolimit.keeps kp).fresh _ hsb, ?_⟩) hkd)
    refine kla_codeExpr ?_
    have kp1 : ∀ b o, h.get? b = some o → h₁.get? b = some o := fun b o e => hsb.extBut b o (Nat.ne_of_lt (Heap.lt_size e)) (Heap.get?_push_of_some _ e)
    have kp2 : ∀ b o, s2.heap.get? b = some o → h₁.get? b = some o := fun b o e => kp1 b o (kp b o e)
    obtain ⟨mb, hb1, hb2⟩ := I2.mod.blt
    have ht1 : IsTup h₁ t its2.toArray := by
      obtain ⟨o, e1, e2⟩ := ht
      exact ⟨o, kp2 _ _ e1, e2⟩
    have hsz : its2.toArray.size = b.length := by rw [List.size_toArray, hi.length]
    refine key_run (L := h.objs.size) (mg := X.mg) (mb := mb) hkd hxl rfl hns (by simp [List.lookup]) hll ((I2.mod.glob.keeps I2.bk).keeps kp2) hml ((hb1.keeps I2.bk).keeps kp2) (hb2 _ (by decide)) ht1 (by rw [hsz]; exact Int.ofNat_lt.mpr (Nat.lt_of_le_of_lt hbl (by decide))) hd fun tk2 u => ?_
    refine ⟨_, _, rfl, fun b' o e => Heap.get?_push_of_some _ (kp1 b' o e), ?_⟩
    rw [hsz]
    have hT3 : Reads (h₁.push { cls := .type "tuple", data := .seq #[.int b.length u, .ref t] }) (.ref t) (.tuple (b.map PyData.int)) [] := by
      obtain ⟨o, e1, e2, n, e3⟩ := ht1
      exact .tuple (Heap.get?_push_of_some _ e1) e2 e3 (readsInts hi)
    have hL : ReadsAll (h₁.push { cls := .type "tuple", data := .seq #[.int b.length u, .ref t] }) [.int b.length u, .ref t] [.int b.length, .tuple (b.map PyData.int)] ([] ++ ([] ++ [])) := .cons (.int _ _) (.cons hT3 .nil)
    exact .tuple (Heap.get?_push_size _ rfl) rfl rfl hL
  · obtain ⟨ys, hys, hyb⟩ := tupIV_back eo
    have hle : s2.heap.objs.size ≤ s2.heap.objs.size + 1 := Nat.le_succ _
    have hn := I2.hok.fresh hle
    refine ⟨.ref (s2.heap.objs.size + 1), _, I2.laid (t' := tk) (o := .lst ys) kp hle ⟨?_, out, cc, hys, hout⟩, rfl, q ys _ hyb hn⟩
    rw [hys.length, hlen]
    exact hlb
end
end L2

set_option Elab.async false
set_option linter.all false
set_option maxRecDepth 100000
set_option maxHeartbeats 4000000
namespace DL
open PySem L2
variable [TabsC]
def tupsOf : List Dat → Option (List (List Int))
  | [] => some []
  | .tuple l :: r => (intsOf l).bind fun b => (tupsOf r).bind fun bs => some (b :: bs)
  | _ => none
theorem tupsOf_some : ∀ {l : List Dat} {bs : List (List Int)}, tupsOf l = some bs → l = bs.map fun b => .tuple (b.map PyData.int)
  | [], _, h => by cases h; rfl
  | d :: r, _, h => by
    cases d <;> simp only [tupsOf, reduceCtorEq] at h
    obtain ⟨b, e1, h⟩ := Option.bind_eq_some_iff.mp h
    obtain ⟨bs, e2, h⟩ := Option.bind_eq_some_iff.mp h
    cases h
    rw [tupsOf_some e2, List.map_cons, ← intsOf_eq e1]
def tupD (b : List Int) : Dat := .tuple (b.map PyData.int)
def gSortLen : Slot → Env → Option (Slot × Env) := fun s Γ => (viewD Γ s).bind fun d => match d with
  | .list l => (tupsOf l).bind fun bs => some (.own (.lst ((bs.mergeSort (PySem.W.dataLe false lotKey)).map tupD)), Γ)
  | _ => none
omit [TabsC] in
theorem each_of {K : PySem.W.Frag} {Hf H : Hp} (s : Ex Hf H) : ∀ {bs : List (List Int)} {xs : List V}, Dens K Hf xs (bs.map tupD) → PySem.W.EachIs (TupI (fun v b => Den K Hf v (tupD b)) K H) xs bs
  | [], _, .nil => .nil
  | b :: bs, _, .cons h t => by
    refine .cons ?_ (each_of s t)
    have h0 := h
    cases h with
    | @tup a xs _ h1 h2 =>
      have := h2.ints
      subst this
      exact ⟨a, rfl, Evl.ex_t s h1, h0⟩
omit [TabsC] in
theorem dens_each {K : PySem.W.Frag} {Hf H : Hp} : ∀ {bs : List (List Int)} {ys : List V}, PySem.W.EachIs (TupI (fun v b => Den K Hf v (tupD b)) K H) ys bs → Dens K Hf ys (bs.map tupD)
  | [], _, .nil => .nil
  | b :: bs, _, .cons h t => by
    obtain ⟨a, rfl, _, h1⟩ := h
    exact .cons h1 (dens_each t)
section
variable {X : Cx} {a : Expr} {ma : M} {k : Nat} {P c : Addr} {x : Str} {params : Arguments} {scope : Scope} {p p1 p2 p3 p4 p5 lp kp pos : Pos} {j : Nat}
theorem d_sortLen (hc : Cok k X) (TB : LamX.TabB X.base X.mg c P) (hcode : X.env.code = .ref c) (hm : (P, X.env.qual ++ "<lambda>") ∈ TabsC.tabs) (hu : ∀ p ∈ TabsC.tabs, p.1 = P → p.2 = X.env.qual ++ "<lambda>")
    (ha : PE X a (tM X.K ma)) (hms : X.mg "sorted" = none) (hml : X.mg "len" = none) (hg : Gl X "sorted" := by rfl)
    (hdef : defaultsOf params X.env = ([], []) := by rfl) (hnf : (scope.names.all fun y => decide (y.2 ≠ .free)) = true := by rfl) (hkd : scope.kind = .function := by rfl) (hco : scope.isCoroutine = false := by rfl) (hgen : scope.isGenerator = false := by rfl)
    (hcell : ∀ y ∈ scope.names, y.2 ≠ .cell := by decide +kernel) (hxl : scope.names.lookup x = some .local := by rfl) (hll : scope.names.lookup ("len" : Str) = some .globalImplicit := by rfl) (hd : (x == ("__debug__" : Str)) = false := by decide)
    (hbind : ∀ (cl : List (Str × Addr)) (pm cdv ctv v : Value), bindArgs (PySem.W.kla_fn "<lambda>" (X.env.qual ++ "<lambda>") params (lenPair x p1 p2 p3 p4 p5 j) scope cl pm cdv ctv) ⟨[v], []⟩ = pure [(x, v)] := by intro _ _ _ _ _; rfl)
    (he : backTo pos (starEach [a] X.env) = (false, eval a X.env) :: backTo pos (starEach [] X.env) := by rfl) (hpl : (backTo pos (starEach [a] X.env)).any (·.1) = false := by rfl) (na : starEach [a] X.env = (false, eval a X.env) :: starEach [] X.env := by rfl) :
    PE X (.Call (.Name "sorted" p) [a] [⟨some "key", .Lambda params (lenPair x p1 p2 p3 p4 p5 j) scope lp, kp⟩] pos) (tM X.K (mUn gSortLen ma)) :=
  PE.imp (pe_sortLen hc.calm hc.hu (by have := hc.room.dp; omega) TB hcode hm hu hg hms hml ha hdef (fun y hy e => absurd e (of_decide_eq_true (List.all_eq_true.mp hnf y hy))) hkd hco hgen hcell hxl hll hd hbind he hpl na) fun σ H Q h => by
    obtain ⟨B, Hf, Γ, ps, r, Γ', R, e, kk⟩ := h
    obtain ⟨⟨s1, Γ1⟩, e1, e⟩ := bindE e
    obtain ⟨d, e2, e⟩ := bindE e
    refine ⟨B, Hf, Γ, ps, s1, Γ1, R, e1, fun x fp1 Hf1 H1 ⟨f, R1⟩ => ⟨R1.tab.2, fun H2 eN hT2 => ?_⟩⟩
    have R2 := R1.growN eN hT2
    cases d <;> simp only [reduceCtorEq] at e
    obtain ⟨bs, e3, e⟩ := bindE e
    simp only [Option.some.injEq, Prod.mk.injEq] at e
    obtain ⟨rfl, rfl⟩ := e
    obtain ⟨a1, vs, h1, q1, dx⟩ := R2.itemsP (p := ⟨x, s1, fp1⟩) (by simp) e2 rfl
    rw [tupsOf_some e3] at dx
    refine ⟨fun v b => Den X.K Hf1 v (tupD b), a1, vs, bs, h1, .inl (by simpa using q1), each_of R2.sub dx, fun ys q hy hq => ?_⟩
    exact kk _ _ _ _ ⟨f, R2.pop.newL hq (dens_each hy)⟩
end
end DL

set_option Elab.async false
set_option linter.all false
set_option maxRecDepth 100000
set_option maxHeartbeats 4000000
namespace DL
open PySem L2
variable [TabsC]
section
variable {P : Program} {w : World} {K : PySem.W.Frag} {mg : Str → Option Value} {base : Heap}
theorem okMC {x qual : Str} {params : Arguments} {body : List Stmt} {scope : Scope} {f c0 : Addr} {fd : FuncData} {N ps : List Str} {k : Nat} {W : List Nat} {m : MS} (F : L2.FunD K x qual params body scope [] [] f fd) (S : FnScope N ps scope) (hm : mg x = some (.ref f)) (hcd : fd.code = .ref c0)
    (hba : ∀ (kV doc pm : Value) (an : Option Addr) (cdv ct : Value) (us : List Value), us.length = ps.length → bindArgs (PySem.W.fnOf x qual params body scope .none kV doc pm an cdv ct) ⟨us, []⟩ = pure (ps.zip us))
    (hb : ∀ (A : Around) (outer : List PySem.Env) (s : Shared) (H : Hp) (E : XK), Cok k (cxOf CX0 P w K mg base N qual scope f (.ref c0) A outer s H E).nox →
      PSs (cxOf CX0 P w K mg base N qual scope f (.ref c0) A outer s H E).nox body (tS K W m)) : DefOk P w K mg base (k + 1) x ps.length (runF ps.length N.length W m) := by
  refine ⟨f, fd, ps, rfl, ?_, hm, F.kp, F.bindsN hba⟩
  obtain ⟨oc, od, dV, kV, doc, pm, an, cdv, ct, osl, e, lk, hcode, _, _⟩ := F.ex
  subst e
  have e : cdv = .ref c0 := hcd
  subst e
  refine fn_of lk hcode S (fun vs H Q E h => h.1) fun A outer s H vs Q E hr h => ⟨tS K W m, (hb A outer s H E ⟨rfl, hr, S.nd⟩).nox, run_of rfl ?_ h⟩
  have := congrArg List.length S.pre
  rw [List.length_take] at this
  omega
/-- the law's start: the script, the tables -/
theorem start_law {F : FS} {H : Hp} {a : Addr} {ns : List Int} {Q : VK} {E : XK} (hK : ∀ b o, K.lookup b = some o → o.cls ≠ .type "list") (hS : SqL K H a (ns.map V.int)) (hT : LamX.Tabs TabsC.tabs H)
    (hF : ∃ args', F [.d (.list (ns.map PyData.int))] = some (.d (.bool true), args')) (hQ : ∀ H', Q (.bl true) H') : spF K 1 F [.ref a] H Q E := by
  obtain ⟨args', hF⟩ := hF
  have hR : Rd H a (.lst (ns.map V.int)) := by
    rcases hS with h | ⟨o, its, n, h1, h2, _⟩
    · exact h
    · exact absurd h2 (hK _ _ h1)
  refine ⟨rfl, fun b => if b = a then H a else none, [.d (.list (ns.map PyData.int))], fun _ => [], _, args', ?_, hF, fun v fp Hf' H' ⟨f', R'⟩ => ?_⟩
  · have sub : Ex (fun b => if b = a then H a else none) H := fun b u q => by
      simp only at q
      by_cases e : b = a
      · rw [if_pos e] at q; rw [e]; exact q
      · rw [if_neg e] at q; cases q
    have hd : Dens K (fun b => if b = a then H a else none) (ns.map V.int) (ns.map PyData.int) := by
      generalize (fun b => if b = a then H a else none) = G
      clear hF hR sub hS
      induction ns with
      | nil => exact .nil
      | cons n r ih => exact .cons (.int n) ih
    have hv : Den K (fun b => if b = a then H a else none) (.ref a) (.list (ns.map PyData.int)) := by
      refine .lst ?_ hd
      rcases hR with h | ⟨o, h⟩
      · exact .inl ((if_pos rfl).trans h)
      · exact .inr ⟨o, (if_pos rfl).trans h⟩
    refine ⟨rfl, sub, fun i g e => ?_, fun i e => rfl, by simp, by simp, by simp, by simp, Evl.Ex.refl _, fun _ _ h _ _ => h, fun _ o h n => ⟨o, h, n⟩, fun _ h => .inl h, by simp, by simp, fun b o q => ?_, hT⟩
    rotate_left
    · by_cases e : b = a
      · rw [if_pos e] at q
        rcases hR with h | ⟨o', h⟩ <;> rw [h] at q <;> cases q <;> exact fun ps z => by cases z
      · rw [if_neg e] at q; cases q
    · cases i with
      | zero => cases e; exact ⟨rfl, _, rfl, hv⟩
      | succ i => simp at e
  · have q := (R'.pend _ List.mem_cons_self).2
    cases q
    exact hQ H'
end
end DL

set_option Elab.async false
set_option linter.all false
set_option maxRecDepth 100000
set_option maxHeartbeats 4000000
namespace DL
open PySem L2
section
variable [TabsC] {P : Program} {w : World} {K : PySem.W.Frag} {mg : Str → Option Value} {base : Heap}
theorem okMF {x qual : Str} {params : Arguments} {body : List Stmt} {scope : Scope} {f : Addr} {fd : FuncData} {N ps : List Str} {k : Nat} {W : List Nat} {m : MS} (F : L2.FunD K x qual params body scope [] [] f fd) (S : FnScope N ps scope)
    (hb : ∀ (cdv : Value) (A : Around) (outer : List PySem.Env) (s : Shared) (H : Hp) (E : XK), Cok k (cxOf CX0 P w K mg base N qual scope f cdv A outer s H E).nox →
      PSs (cxOf CX0 P w K mg base N qual scope f cdv A outer s H E).nox body (tS K W m)) : FnOk P w K mg base CX0 (k + 1) f fd ps (spF K ps.length (runF ps.length N.length W m)) := by
  refine F.ok S (fun vs H Q E h => h.1) fun cdv A outer s H vs Q E hr h => ⟨tS K W m, (hb cdv A outer s H E ⟨rfl, hr, S.nd⟩).nox, run_of rfl ?_ h⟩
  have := congrArg List.length S.pre
  rw [List.length_take] at this
  omega
end
section
variable {K : PySem.W.Frag}
theorem code_of {x qual : Str} {params : Arguments} {body : List Stmt} {scope : Scope} {fd : FuncData} {p : He.Defn} (F : L2.FunD K x qual params body scope [] [] (He.fAd K p) fd) : fd.code = .ref (He.codeOf K p) := by
  obtain ⟨oc, od, dV, kV, doc, pm, an, cdv, ct, osl, e, lk, hc, _, _⟩ := F.ex
  subst e
  obtain ⟨c, rfl⟩ := He.codeIn_ref hc
  rw [He.codeOf_eq lk rfl]
theorem tabs_nil {T : List (Addr × Str)} {H : Hp} (h : ∀ p ∈ T, H p.1 = some (.tbl #[])) : LamX.Tabs T H := fun p hp => LamX.TabS.nil (h p hp)
theorem no_lists {K : PySem.W.Frag} (h : (K.all fun q => !(q.2.cls == .type "list")) = true) : ∀ b o, K.lookup b = some o → o.cls ≠ .type "list" := fun b o e => by
  have := List.all_eq_true.mp h _ (He.lookup_mem e)
  simpa using this
end
end DL


set_option Elab.async false
set_option linter.all false
set_option maxRecDepth 100000
set_option maxHeartbeats 4000000
namespace K22
open PySem L2 DL
def top (i : Nat) : Stmt := PySem.Challenge.pw_kindkey_k22_what_kinds_miss_and_which_fi.main.body.getD i (.Pass ⟨0, 0, 0, 0⟩)
section
variable [TabsC]
abbrev s_is_integer : Stmt := top 1
def F_is_integer : FS := runF 1 1 [] (mRet 1 (mAndV (mIsi .int (mVar 0)) (mNotV (mIsi .bool (mVar 0)))))
abbrev s_is_tuple_of : Stmt := top 3
def F_is_tuple_of : FS := runF 2 2 [] (mRet 2 (mAndV (mIsi .tup (mVar 0)) (mBin gEq (mUn (gSc1 lenD) (mVar 0)) (mVar 1))))
abbrev s_shows_of : Stmt := top 6
def F_shows_of : FS := runF 3 3 [] (mRet 3 (mBin gIx (mBin gIx (mBin gIx (mBin gIx (mVar 0) (mC (.int 3))) (mVar 1)) (mC (.int 2))) (mVar 2)))
abbrev s_nothing_read : Stmt := top 7
def F_nothing_read : FS := runF 1 1 [] (mRet 1 (mBin gMul (mTup (mDc (mC (.int (-1))) mD0)) (mUn (gSc1 lenD) (mBin gIx (mVar 0) (mC (.int 2))))))
abbrev s_is_whole : Stmt := top 9
def F_is_whole : FS := runF 1 1 [] (mRet 1 (mBin gNin (mC (.int (-1))) (mVar 0)))
abbrev s_read_traits : Stmt := top 10
def F_read_traits : FS := runF 1 3 [] (mRet 1 (mUn gTuple (mLc (mEnum (mVar 0)) (setT 2 (setC (setS 1) (setC (setS 2) setN))) (mB (mBin gNe (mVar 2) (mC (.int (-1))))) (mVar 1) [1, 2])))
abbrev s_unread_traits : Stmt := top 11
def F_unread_traits : FS := runF 1 3 [] (mRet 1 (mUn gTuple (mLc (mEnum (mVar 0)) (setT 2 (setC (setS 1) (setC (setS 2) setN))) (mB (mBin gEq (mVar 2) (mC (.int (-1))))) (mVar 1) [1, 2])))
abbrev s_with_read : Stmt := top 12
def F_with_read : FS := runF 3 3 [] (mRet 3 (mTup (mDs (mSl (mVar 0) mO0 (mO1 (mVar 1))) (mDc (mVar 2) (mDs (mSl (mVar 0) (mO1 (mBin gAdd (mVar 1) (mC (.int 1)))) mO0) mD0)))))
abbrev s_goes_on : Stmt := top 13
def F_goes_on : FS := runF 2 4 [] (mRet 2 (mUn (gSc1 allD) (mLc (mZip (mVar 0) (mVar 1)) (setT 2 (setC (setS 2) (setC (setS 3) setN))) mYes (mBin gIn (mVar 2) (mTup (mDc (mC (.int (-1))) (mDc (mVar 3) mD0)))) [2, 3])))
abbrev s_groups_of : Stmt := top 18
def F_groups_of : FS := runF 2 3 [] (mRet 2 (mUn gTuple (mUn gSortD (mDcomp (mSeqI (mVar 1)) (setS 2) mYes (mBin gIx (mBin gIx (mBin gIx (mVar 0) (mC (.int 3))) (mVar 2)) (mC (.int 1))) (mC (.bool true)) [2]))))
abbrev s_price_of : Stmt := top 21
def F_price_of : FS := runF 2 3 [] (mRet 2 (mUn (gSc1 sumD) (mLc (mSeqI (mVar 1)) (setS 2) mYes (mBin gIx (mBin gIx (mBin gIx (mVar 0) (mC (.int 2))) (mVar 2)) (mC (.int 2))) [2])))
abbrev s_all_readings : Stmt := top 22
def F_all_readings : FS := runF 1 7 [1, 2, 3, 4] (mSeq (mSet (setS 1) (mLst (mDc (mTup mD0) mD0))) (mSeq (mFor (mSeqI (mBin gIx (mVar 0) (mC (.int 2)))) (setT 3 (setC (setS 2) (setC (setS 3) (setC (setS 4) setN)))) (mSet (setS 1) (mLc2 (mSeqI (mVar 1)) (setS 5) (mRange1 (mBin gAdd (mVar 3) (mC (.int 1)))) (setS 6) (mTup (mDs (mVar 5) (mDc (mVar 6) mD0))) [5, 6] [6]))) (mRet 1 (mVar 1))))
abbrev s__law_bag : Stmt := top 25
def F__law_bag : FS := runF 1 2 [] (mRet 1 (mLst (mDc (mC (.int 0)) (mDc (mC (.int 1234567891)) (mDc (mC (.int 0)) (mDc (mLc (mSeqI (mSl (mVar 0) mO0 (mO1 (mC (.int 63))))) (setS 1) mYes (mUn (gSc1 absD) (mVar 1)) [1]) mD0))))))
abbrev s__law_take : Stmt := top 26
def F__law_take : FS := runF 2 7 [2, 3, 4, 5, 6] (mSeq (mIfS (mB (mBin gEq (mBin gIx (mVar 0) (mC (.int 0))) (mC (.int 0)))) (mSeq (mSet (setS 2) (mBin gIx (mBin gAdd (mSl (mBin gIx (mVar 0) (mC (.int 3))) (mO1 (mBin gIx (mVar 0) (mC (.int 2)))) mO0) (mLst (mDc (mC (.int 0)) mD0))) (mC (.int 0)))) (mSeq (mAugIx 0 (fun i j => i + j) (mC (.int 2)) (mC (.int 1))) (mSeq (mIfS (mB (mBin gGe (mVar 2) (mBin gPow (mC (.int 10)) (mC (.int 18))))) (mSetIx 0 (mC (.int 0)) (mVar 2)) mNext) (mSeq (mSet (setS 3) (mBin gAdd (mBin gAdd (mBin gMul (mBin gIx (mVar 0) (mC (.int 1))) (mC (.int 48271))) (mBin gMod (mUn (gSc1 intD) (mVar 2)) (mC (.int 2147483647)))) (mBin gMul (mC (.int 7919)) (mBin gIx (mVar 0) (mC (.int 2)))))) (mSetIx 0 (mC (.int 1)) (mBin gMod (mUn (gSc1 intD) (mVar 3)) (mC (.int 2147483647)))))))) mNext) (mSeq (mIfS (mB (mBin gGt (mBin gIx (mVar 0) (mC (.int 0))) (mC (.int 0)))) (mSeq (mSet (setS 4) (mBin gMod (mUn (gSc1 intD) (mBin gIx (mVar 0) (mC (.int 0)))) (mVar 1))) (mSeq (mSetIx 0 (mC (.int 0)) (mBin gFdiv (mUn (gSc1 intD) (mBin gIx (mVar 0) (mC (.int 0)))) (mVar 1))) (mRet 2 (mVar 4)))) mNext) (mSeq (mSet (setS 5) (mBin gMod (mUn (gSc1 intD) (mBin gMul (mBin gAdd (mBin gIx (mVar 0) (mC (.int 1))) (mC (.int 1))) (mC (.int 39373)))) (mC (.int 1000000007)))) (mSeq (mSet (setS 6) (mBin gMod (mUn (gSc1 intD) (mBin gMul (mBin gMod (mUn (gSc1 intD) (mBin gMul (mVar 5) (mVar 5))) (mC (.int 998244353))) (mC (.int 30011)))) (mC (.int 998244353)))) (mRet 2 (mBin gMod (mUn (gSc1 intD) (mBin gFdiv (mVar 6) (mC (.int 7)))) (mVar 1)))))))
abbrev s__law_is_int : Stmt := top 28
def F__law_is_int : FS := runF 1 1 [] (mRet 1 (mAndV (mIsi .int (mVar 0)) (mNotV (mIsi .bool (mVar 0)))))
abbrev s__law_alike : Stmt := top 29
def F__law_alike : FS := runF 2 6 [2, 3, 4, 5] (mSeq (mPar [2, 3] (mAc (mLst (mDc (mTup (mDc (mVar 0) (mDc (mVar 1) mD0))) mD0)) (mAc (mC (.int 0)) mA0))) (mSeq (whL (mB (mBin gLt (mVar 3) (mUn (gSc1 lenD) (mVar 2)))) (mSeq (mSet (setT 2 (setC (setS 4) (setC (setS 5) setN))) (mBin gIx (mVar 2) (mVar 3))) (mSeq (mAug 3 (fun i j => i + j) (mC (.int 1))) (mSeq (mIfS (mOrT (mB (mBin gNe (mIsi .bool (mVar 4)) (mIsi .bool (mVar 5)))) (mB (mBin gNe (mIsi .str (mVar 4)) (mIsi .str (mVar 5))))) (mRet 2 (mC (.bool false))) mNext) (mSeq (mIfS (mB (mBin gNe (mIsi2 .tup .lst (mVar 4)) (mIsi2 .tup .lst (mVar 5)))) (mRet 2 (mC (.bool false))) mNext) (mIfS (mTru (mIsi2 .tup .lst (mVar 4))) (mSeq (mIfS (mOrT (mB (mBin gNe (mIsi .tup (mVar 4)) (mIsi .tup (mVar 5)))) (mB (mBin gNe (mUn (gSc1 lenD) (mVar 4)) (mUn (gSc1 lenD) (mVar 5))))) (mRet 2 (mC (.bool false))) mNext) (mDrop (mExt 2 (mListZip (mVar 4) (mVar 5))))) (mIfS (mB (mBin gNe (mVar 4) (mVar 5))) (mRet 2 (mC (.bool false))) mNext)))))) fuel) (mRet 2 (mC (.bool true)))))
abbrev s__law_rows_of : Stmt := top 32
def F__law_rows_of : FS := runF 1 6 [1, 2, 3, 4] (mSeq (mSet (setS 1) (mLst (mDc (mTup mD0) mD0))) (mSeq (mFor (mSeqI (mVar 0)) (setS 2) (mSeq (mSet (setS 3) (mLst mD0)) (mSeq (mFor (mSeqI (mVar 1)) (setS 4) (mSet (setS 3) (mBin gAdd (mVar 3) (mLc (mSeqI (mVar 2)) (setS 5) mYes (mBin gAdd (mVar 4) (mTup (mDc (mVar 5) mD0))) [5])))) (mSet (setS 1) (mVar 3))))) (mRet 1 (mVar 1))))
abbrev s__law_nothing : Stmt := top 33
def F__law_nothing : FS := runF 1 1 [] (mRet 1 (mBin gMul (mTup (mDc (mUn gNeg (mC (.int 1))) mD0)) (mUn (gSc1 lenD) (mBin gIx (mVar 0) (mC (.int 2))))))
abbrev s__law_with : Stmt := top 34
def F__law_with : FS := runF 3 3 [] (mRet 3 (mBin gAdd (mBin gAdd (mSl (mVar 0) mO0 (mO1 (mVar 1))) (mTup (mDc (mVar 2) mD0))) (mSl (mVar 0) (mO1 (mBin gAdd (mVar 1) (mC (.int 1)))) mO0)))
abbrev s__law_unread : Stmt := top 35
def F__law_unread : FS := runF 1 3 [] (mRet 1 (mLc (mEnum (mVar 0)) (setT 2 (setC (setS 1) (setC (setS 2) setN))) (mB (mBin gLt (mVar 2) (mC (.int 0)))) (mVar 1) [1, 2]))
abbrev s__law_misses : Stmt := top 36
def F__law_misses : FS := runF 3 5 [] (mRet 3 (mUn gTuple (mLc (mEnum (mVar 2)) (setT 2 (setC (setS 3) (setC (setS 4) setN))) (mAndT (mB (mBin gGe (mVar 4) (mC (.int 0)))) (mB (mBin gNin (mVar 4) (mBin gIx (mBin gIx (mBin gIx (mBin gIx (mVar 0) (mC (.int 3))) (mVar 1)) (mC (.int 2))) (mVar 3))))) (mVar 3) [3, 4])))
abbrev s__law_groups : Stmt := top 38
def F__law_groups : FS := runF 2 3 [] (mRet 2 (mUn gSortSet (mLc (mSeqI (mVar 1)) (setS 2) mYes (mBin gIx (mBin gIx (mBin gIx (mVar 0) (mC (.int 3))) (mVar 2)) (mC (.int 1))) [2])))
abbrev s__law_price : Stmt := top 39
def F__law_price : FS := runF 2 3 [] (mRet 2 (mUn (gSc1 sumD) (mLc (mSeqI (mVar 1)) (setS 2) mYes (mBin gIx (mBin gIx (mBin gIx (mVar 0) (mC (.int 2))) (mVar 2)) (mC (.int 2))) [2])))
abbrev s__law_lots : Stmt := top 41
def F__law_lots : FS := runF 1 4 [1, 2] (mSeq (mSet (setS 1) (mLst (mDc (mTup mD0) mD0))) (mSeq (mFor (mRange1 (mVar 0)) (setS 2) (mSet (setS 1) (mBin gAdd (mVar 1) (mLc (mSeqI (mVar 1)) (setS 3) mYes (mBin gAdd (mVar 3) (mTup (mDc (mVar 2) mD0))) [3])))) (mRet 1 (mUn gSortLen (mVar 1)))))
abbrev s_is_within : Stmt := top 2
def F_is_within : FS := runF 3 3 [] (mRet 3 (mAndV (mCall 1 F_is_integer (mAc (mVar 0) mA0)) (mVal (mChain (cmpI iLe) (cmpI iLe) (mVar 1) (mVar 0) (mVar 2)))))
abbrev s_misses : Stmt := top 14
def F_misses : FS := runF 3 4 [] (mRet 3 (mUn gTuple (mLc (mSeqI (mCall 1 F_read_traits (mAc (mVar 2) mA0))) (setS 3) (mB (mBin gNin (mBin gIx (mVar 2) (mVar 3)) (mCall 3 F_shows_of (mAc (mVar 0) (mAc (mVar 1) (mAc (mVar 3) mA0)))))) (mVar 3) [3])))
abbrev s_next_readings : Stmt := top 23
def F_next_readings : FS := runF 3 4 [] (mRet 3 (mLc (mRange1 (mBin gAdd (mBin gIx (mBin gIx (mBin gIx (mVar 0) (mC (.int 2))) (mVar 2)) (mC (.int 1))) (mC (.int 1)))) (setS 3) mYes (mCall 3 F_with_read (mAc (mVar 1) (mAc (mVar 2) (mAc (mVar 3) mA0)))) [3]))
abbrev s__law_some : Stmt := top 27
def F__law_some : FS := runF 2 2 [] (mRet 2 (mBin gIx (mVar 1) (mCall 2 F__law_take (mAc (mVar 0) (mAc (mUn (gSc1 lenD) (mVar 1)) mA0)))))
abbrev s__law_told : Stmt := top 37
def F__law_told : FS := runF 2 3 [] (mRet 2 (mUn gTuple (mLc (mRange1 (mUn (gSc1 lenD) (mBin gIx (mVar 0) (mC (.int 3))))) (setS 2) (mB (mBin gLe (mUn (gSc1 lenD) (mCall 3 F__law_misses (mAc (mVar 0) (mAc (mVar 2) (mAc (mVar 1) mA0))))) (mBin gIx (mVar 0) (mC (.int 1))))) (mVar 2) [2])))
abbrev s__law_wholes : Stmt := top 40
def F__law_wholes : FS := runF 1 4 [] (mRet 1 (mCall 1 F__law_rows_of (mAc (mLc (mSeqI (mBin gIx (mVar 0) (mC (.int 2)))) (setT 3 (setC (setS 1) (setC (setS 2) (setC (setS 3) setN)))) mYes (mUn gListRg (mBin gAdd (mVar 2) (mC (.int 1)))) [1, 2, 3]) mA0)))
abbrev s__law_states : Stmt := top 42
def F__law_states : FS := runF 2 4 [2] (mSeq (mSet (setS 2) (mLc (mRange1 (mBin gAdd (mVar 1) (mC (.int 1)))) (setS 3) (mB (mBin gEq (mCall 2 F__law_take (mAc (mVar 0) (mAc (mC (.int 3)) mA0))) (mC (.int 0)))) (mVar 3) [3])) (mRet 2 (mIf (mB (mBin gNe (mVar 2) (mLst mD0))) (mUn gTuple (mVar 2)) (mTup (mDc (mCall 2 F__law_take (mAc (mVar 0) (mAc (mBin gAdd (mVar 1) (mC (.int 1))) mA0))) mD0)))))
abbrev s__law_reading : Stmt := top 46
def F__law_reading : FS := runF 2 5 [] (mRet 2 (mUn gTuple (mLc (mSeqI (mBin gIx (mVar 1) (mC (.int 2)))) (setT 3 (setC (setS 2) (setC (setS 3) (setC (setS 4) setN)))) mYes (mBin gSub (mCall 2 F__law_take (mAc (mVar 0) (mAc (mBin gAdd (mVar 3) (mC (.int 2))) mA0))) (mC (.int 1))) [2, 3, 4])))
abbrev s__law_is_reading : Stmt := top 47
def F__law_is_reading : FS := runF 2 4 [] (mSeq (mIfS (mOrT (mNotT (mTru (mIsi .tup (mVar 1)))) (mB (mBin gNe (mUn (gSc1 lenD) (mVar 1)) (mUn (gSc1 lenD) (mBin gIx (mVar 0) (mC (.int 2))))))) (mRet 2 (mC (.bool false))) mNext) (mRet 2 (mBin gEq (mLc (mZip (mBin gIx (mVar 0) (mC (.int 2))) (mVar 1)) (setT 2 (setC (setS 2) (setC (setS 3) setN))) (mOrT (mNotT (mTru (mCall 1 F__law_is_int (mAc (mVar 3) mA0)))) (mNotT (mChain (cmpI iLe) (cmpI iLe) (mUn gNeg (mC (.int 1))) (mVar 3) (mBin gIx (mVar 2) (mC (.int 1)))))) (mC (.int 1)) [2, 3]) (mLst mD0))))
abbrev s__law_can_be : Stmt := top 48
def F__law_can_be : FS := runF 3 7 [3] (mSeq (mFor (mSeqI (mCall 1 F__law_rows_of (mAc (mLc (mSeqI (mBin gIx (mBin gIx (mBin gIx (mVar 0) (mC (.int 3))) (mVar 1)) (mC (.int 2)))) (setS 4) mYes (mUn gList (mVar 4)) [4]) mA0))) (setS 3) (mIfS (mB (mBin gLe (mUn (gSc1 lenD) (mLc (mZip (mVar 2) (mVar 3)) (setT 2 (setC (setS 5) (setC (setS 6) setN))) (mAndT (mB (mBin gGe (mVar 5) (mC (.int 0)))) (mB (mBin gNe (mVar 5) (mVar 6)))) (mC (.int 1)) [5, 6])) (mBin gIx (mVar 0) (mC (.int 1))))) (mRet 3 (mC (.bool true))) mNext)) (mRet 3 (mC (.bool false))))
abbrev s_is_reading : Stmt := top 8
def F_is_reading : FS := runF 2 4 [] (mSeq (mIfS (mNotT (mTru (mCall 2 F_is_tuple_of (mAc (mVar 1) (mAc (mUn (gSc1 lenD) (mBin gIx (mVar 0) (mC (.int 2)))) mA0))))) (mRet 2 (mC (.bool false))) mNext) (mRet 2 (mUn (gSc1 allD) (mLc (mZip (mBin gIx (mVar 0) (mC (.int 2))) (mVar 1)) (setT 2 (setC (setS 2) (setC (setS 3) setN))) mYes (mCall 3 F_is_within (mAc (mVar 3) (mAc (mC (.int (-1))) (mAc (mBin gIx (mVar 2) (mC (.int 1))) mA0)))) [2, 3]))))
abbrev s_fits : Stmt := top 15
def F_fits : FS := runF 3 3 [] (mRet 3 (mBin gLe (mUn (gSc1 lenD) (mCall 3 F_misses (mAc (mVar 0) (mAc (mVar 1) (mAc (mVar 2) mA0))))) (mBin gIx (mVar 0) (mC (.int 1)))))
abbrev s__law_odd : Stmt := top 30
def F__law_odd : FS := runF 1 2 [1] (mSeq (mSet (setS 1) (mLst (mDc (mC .none) (mDc (mC (.bool true)) (mDc (mC (.bool false)) (mDc (mC (.int 0)) (mDc (mUn gNeg (mC (.int 1))) (mDc (mC (.int 7)) (mDc (mBin gPow (mC (.int 10)) (mC (.int 30))) (mDc (mC (.str "")) (mDc (mC (.str "a")) (mDc (mC (.str "beat")) (mDc (mTup mD0) (mDc (mLst mD0) (mDc mDict0 (mDc (mTup (mDc (mC (.int 0)) mD0)) (mDc (mTup (mDc (mTup mD0) mD0)) (mDc (mLst (mDc (mC (.int 1)) mD0)) (mDc (mDict1 "a" (mC (.int 1))) (mDc (mTup (mDc (mTup (mDc (mC (.int 1)) (mDc (mC (.int 2)) mD0))) mD0)) (mDc (mTup (mDc (mC (.str "a")) (mDc (mC (.int 0)) mD0))) mD0))))))))))))))))))))) (mRet 1 (mCall 2 F__law_some (mAc (mVar 0) (mAc (mVar 1) mA0)))))
abbrev s__law_a_kind : Stmt := top 43
def F__law_a_kind : FS := runF 3 6 [] (mRet 3 (mTup (mDc (mVar 1) (mDc (mCall 2 F__law_some (mAc (mVar 0) (mAc (mLst (mDc (mC (.str "night")) (mDc (mC (.str "yard")) mD0))) mA0))) (mDc (mUn gTuple (mLc (mSeqI (mVar 2)) (setT 3 (setC (setS 3) (setC (setS 4) (setC (setS 5) setN)))) mYes (mCall 2 F__law_states (mAc (mVar 0) (mAc (mVar 4) mA0))) [3, 4, 5])) mD0)))))
abbrev s_told : Stmt := top 16
def F_told : FS := runF 2 3 [] (mRet 2 (mUn gTuple (mLc (mRange1 (mUn (gSc1 lenD) (mBin gIx (mVar 0) (mC (.int 3))))) (setS 2) (mTru (mCall 3 F_fits (mAc (mVar 0) (mAc (mVar 2) (mAc (mVar 1) mA0))))) (mVar 2) [2])))
abbrev s__law_bent : Stmt := top 31
def F__law_bent : Nat → FS
  | 0 => fun _ => none
  | r + 1 => let Fr := F__law_bent r; runF 3 5 [3, 4] (mSeq (mIfS (mAndT (mTru (mIsi .tup (mVar 1))) (mAndT (mB (mBin gNe (mVar 1) (mTup mD0))) (mAndT (mB (mBin gGt (mVar 2) (mC (.int 0)))) (mB (mBin gGt (mCall 2 F__law_take (mAc (mVar 0) (mAc (mC (.int 4)) mA0))) (mC (.int 0))))))) (mSeq (mSet (setS 3) (mCall 2 F__law_take (mAc (mVar 0) (mAc (mUn (gSc1 lenD) (mVar 1)) mA0)))) (mRet 3 (mBin gAdd (mBin gAdd (mSl (mVar 1) mO0 (mO1 (mVar 3))) (mTup (mDc (mCall 3 Fr (mAc (mVar 0) (mAc (mBin gIx (mVar 1) (mVar 3)) (mAc (mBin gSub (mVar 2) (mC (.int 1))) mA0)))) mD0))) (mSl (mVar 1) (mO1 (mBin gAdd (mVar 3) (mC (.int 1)))) mO0)))) mNext) (mSeq (mIfS (mTru (mIsi .bool (mVar 1))) (mRet 3 (mCall 2 F__law_some (mAc (mVar 0) (mAc (mLst (mDc (mNotV (mVar 1)) (mDc (mUn (gSc1 intD) (mVar 1)) (mDc (mC .none) mD0)))) mA0)))) mNext) (mSeq (mIfS (mTru (mIsi .int (mVar 1))) (mRet 3 (mCall 2 F__law_some (mAc (mVar 0) (mAc (mLst (mDc (mBin gAdd (mVar 1) (mC (.int 1))) (mDc (mBin gSub (mVar 1) (mC (.int 1))) (mDc (mUn gNeg (mVar 1)) (mDc (mBin gEq (mVar 1) (mC (.int 1))) (mDc (mTup (mDc (mVar 1) mD0)) (mDc (mBin gPow (mC (.int 10)) (mC (.int 30))) mD0))))))) mA0)))) mNext) (mSeq (mIfS (mAndT (mTru (mIsi .tup (mVar 1))) (mB (mBin gNe (mVar 1) (mTup mD0)))) (mSeq (mSet (setS 3) (mCall 2 F__law_take (mAc (mVar 0) (mAc (mUn (gSc1 lenD) (mVar 1)) mA0)))) (mSeq (mSet (setS 4) (mBin gAdd (mBin gAdd (mSl (mVar 1) mO0 (mO1 (mVar 3))) (mTup (mDc (mBin gIx (mVar 1) (mVar 3)) mD0))) (mSl (mVar 1) (mO1 (mVar 3)) mO0))) (mRet 3 (mCall 2 F__law_some (mAc (mVar 0) (mAc (mLst (mDc (mUn gList (mVar 1)) (mDc (mBin gAdd (mSl (mVar 1) mO0 (mO1 (mVar 3))) (mSl (mVar 1) (mO1 (mBin gAdd (mVar 3) (mC (.int 1)))) mO0)) (mDc (mVar 4) (mDc (mUn gRev (mVar 1)) (mDc (mCall 1 F__law_odd (mAc (mVar 0) mA0)) mD0)))))) mA0)))))) mNext) (mRet 3 (mCall 1 F__law_odd (mAc (mVar 0) mA0)))))))
abbrev s__law_book : Stmt := top 44
def F__law_book : FS := runF 1 5 [1, 2, 4] (mSeq (mSet (setS 1) (mSl (mLst (mDc (mC (.str "beak")) (mDc (mC (.str "leg")) (mDc (mC (.str "wing")) (mDc (mC (.str "song")) mD0))))) mO0 (mO1 (mBin gAdd (mC (.int 2)) (mCall 2 F__law_take (mAc (mVar 0) (mAc (mC (.int 3)) mA0))))))) (mSeq (mSet (setS 2) (mUn gTuple (mLc (mSeqI (mVar 1)) (setS 3) mYes (mTup (mDc (mVar 3) (mDc (mBin gAdd (mC (.int 1)) (mCall 2 F__law_take (mAc (mVar 0) (mAc (mC (.int 2)) mA0)))) (mDc (mBin gAdd (mC (.int 1)) (mCall 2 F__law_take (mAc (mVar 0) (mAc (mC (.int 4)) mA0)))) mD0)))) [3]))) (mSeq (mSet (setS 4) (mUn gTuple (mLc (mSeqI (mSl (mLst (mDc (mC (.str "owl")) (mDc (mC (.str "hen")) (mDc (mC (.str "bat")) (mDc (mC (.str "crow")) (mDc (mC (.str "jay")) mD0)))))) mO0 (mO1 (mBin gAdd (mC (.int 2)) (mCall 2 F__law_take (mAc (mVar 0) (mAc (mC (.int 4)) mA0))))))) (setS 3) mYes (mCall 3 F__law_a_kind (mAc (mVar 0) (mAc (mVar 3) (mAc (mVar 2) mA0)))) [3]))) (mRet 1 (mTup (mDc (mC (.str "drawn")) (mDc (mCall 2 F__law_some (mAc (mVar 0) (mAc (mLst (mDc (mC (.int 0)) (mDc (mC (.int 1)) (mDc (mC (.int 1)) (mDc (mC (.int 0)) (mDc (mC (.int 2)) mD0)))))) mA0))) (mDc (mVar 2) (mDc (mVar 4) mD0)))))))))
abbrev s__law_turned : Stmt := top 45
def F__law_turned : FS := runF 2 17 [2, 3, 4, 5, 6, 7, 8, 9, 10, 11, 12, 13, 16] (mSeq (mSet (setT 4 (setC (setS 2) (setC (setS 3) (setC (setS 4) (setC (setS 5) setN))))) (mVar 1)) (mSeq (mPar [6, 7, 8] (mAc (mCall 2 F__law_take (mAc (mVar 0) (mAc (mC (.int 7)) mA0))) (mAc (mCall 2 F__law_take (mAc (mVar 0) (mAc (mUn (gSc1 lenD) (mVar 5)) mA0))) (mAc (mCall 2 F__law_take (mAc (mVar 0) (mAc (mUn (gSc1 lenD) (mVar 4)) mA0))) mA0)))) (mSeq (mSet (setT 3 (setC (setS 9) (setC (setS 10) (setC (setS 11) setN)))) (mBin gIx (mVar 5) (mVar 7))) (mSeq (mIfS (mB (mBin gEq (mVar 6) (mC (.int 0)))) (mRet 2 (mTup (mDc (mVar 2) (mDc (mCall 2 F__law_take (mAc (mVar 0) (mAc (mC (.int 3)) mA0))) (mDc (mVar 4) (mDc (mVar 5) mD0)))))) mNext) (mSeq (mIfS (mB (mBin gEq (mVar 6) (mC (.int 1)))) (mSeq (mSet (setS 12) (mBin gAdd (mSl (mBin gIx (mVar 4) (mVar 8)) mO0 (mO1 (mC (.int 2)))) (mTup (mDc (mBin gAdd (mC (.int 1)) (mCall 2 F__law_take (mAc (mVar 0) (mAc (mC (.int 9)) mA0)))) mD0)))) (mRet 2 (mTup (mDc (mVar 2) (mDc (mVar 3) (mDc (mBin gAdd (mBin gAdd (mSl (mVar 4) mO0 (mO1 (mVar 8))) (mTup (mDc (mVar 12) mD0))) (mSl (mVar 4) (mO1 (mBin gAdd (mVar 8) (mC (.int 1)))) mO0)) (mDc (mVar 5) mD0))))))) mNext) (mSeq (mIfS (mAndT (mB (mBin gEq (mVar 6) (mC (.int 2)))) (mB (mBin gLt (mUn (gSc1 lenD) (mVar 5)) (mC (.int 7))))) (mSeq (mSet (setS 13) (mLc (mSeqI (mLst (mDc (mC (.str "ka")) (mDc (mC (.str "kb")) (mDc (mC (.str "kc")) (mDc (mC (.str "kd")) (mDc (mC (.str "ke")) (mDc (mC (.str "kf")) (mDc (mC (.str "kg")) mD0))))))))) (setS 14) (mB (mBin gNin (mVar 14) (mLc (mSeqI (mVar 5)) (setS 15) mYes (mBin gIx (mVar 15) (mC (.int 0))) [15]))) (mVar 14) [14])) (mRet 2 (mTup (mDc (mVar 2) (mDc (mVar 3) (mDc (mVar 4) (mDc (mBin gAdd (mBin gAdd (mSl (mVar 5) mO0 (mO1 (mVar 7))) (mTup (mDc (mCall 3 F__law_a_kind (mAc (mVar 0) (mAc (mBin gIx (mVar 13) (mC (.int 0))) (mAc (mVar 4) mA0)))) mD0))) (mSl (mVar 5) (mO1 (mVar 7)) mO0)) mD0))))))) mNext) (mSeq (mIfS (mAndT (mB (mBin gEq (mVar 6) (mC (.int 3)))) (mB (mBin gGt (mUn (gSc1 lenD) (mVar 5)) (mC (.int 2))))) (mRet 2 (mTup (mDc (mVar 2) (mDc (mVar 3) (mDc (mVar 4) (mDc (mBin gAdd (mSl (mVar 5) mO0 (mO1 (mVar 7))) (mSl (mVar 5) (mO1 (mBin gAdd (mVar 7) (mC (.int 1)))) mO0)) mD0)))))) mNext) (mSeq (mIfS (mB (mBin gEq (mVar 6) (mC (.int 4)))) (mRet 2 (mTup (mDc (mVar 2) (mDc (mVar 3) (mDc (mVar 4) (mDc (mBin gAdd (mBin gAdd (mSl (mVar 5) mO0 (mO1 (mVar 7))) (mTup (mDc (mTup (mDc (mVar 9) (mDc (mCall 2 F__law_some (mAc (mVar 0) (mAc (mLst (mDc (mC (.str "night")) (mDc (mC (.str "yard")) mD0))) mA0))) (mDc (mVar 11) mD0)))) mD0))) (mSl (mVar 5) (mO1 (mBin gAdd (mVar 7) (mC (.int 1)))) mO0)) mD0)))))) mNext) (mSeq (mSet (setS 16) (mBin gAdd (mBin gAdd (mSl (mVar 11) mO0 (mO1 (mVar 8))) (mTup (mDc (mCall 2 F__law_states (mAc (mVar 0) (mAc (mBin gIx (mBin gIx (mVar 4) (mVar 8)) (mC (.int 1))) mA0))) mD0))) (mSl (mVar 11) (mO1 (mBin gAdd (mVar 8) (mC (.int 1)))) mO0))) (mRet 2 (mTup (mDc (mVar 2) (mDc (mVar 3) (mDc (mVar 4) (mDc (mBin gAdd (mBin gAdd (mSl (mVar 5) mO0 (mO1 (mVar 7))) (mTup (mDc (mTup (mDc (mVar 9) (mDc (mVar 10) (mDc (mVar 16) mD0)))) mD0))) (mSl (mVar 5) (mO1 (mBin gAdd (mVar 7) (mC (.int 1)))) mO0)) mD0)))))))))))))))
abbrev s_is_strange : Stmt := top 17
def F_is_strange : FS := runF 2 2 [] (mRet 2 (mBin gEq (mCall 2 F_told (mAc (mVar 0) (mAc (mVar 1) mA0))) (mTup mD0)))
abbrev s_sure_kind : Stmt := top 19
def F_sure_kind : FS := runF 2 3 [2] (mSeq (mSet (setS 2) (mCall 2 F_told (mAc (mVar 0) (mAc (mVar 1) mA0)))) (mRet 2 (mIf (mB (mBin gEq (mUn (gSc1 lenD) (mVar 2)) (mC (.int 1)))) (mBin gIx (mVar 2) (mC (.int 0))) (mC .none))))
abbrev s_sure_group : Stmt := top 20
def F_sure_group : FS := runF 2 3 [2] (mSeq (mSet (setS 2) (mCall 2 F_groups_of (mAc (mVar 0) (mAc (mCall 2 F_told (mAc (mVar 0) (mAc (mVar 1) mA0))) mA0)))) (mRet 2 (mIf (mB (mBin gEq (mUn (gSc1 lenD) (mVar 2)) (mC (.int 1)))) (mBin gIx (mVar 2) (mC (.int 0))) (mC .none))))
abbrev s__law_reading_right : Stmt := top 49
def F__law_reading_right : FS := runF 3 19 [3, 4, 5, 6, 8, 9, 11, 12, 14, 15, 18] (mSeq (mSet (setS 3) (mUn gListRg (mUn (gSc1 lenD) (mBin gIx (mVar 1) (mC (.int 3)))))) (mSeq (mSet (setS 4) (mCall 2 F__law_told (mAc (mVar 1) (mAc (mVar 2) mA0)))) (mSeq (mSet (setS 5) (mCall 2 F__law_groups (mAc (mVar 1) (mAc (mVar 4) mA0)))) (mSeq (mSet (setS 6) (mLst (mDc (mLc (mSeqI (mVar 3)) (setS 7) mYes (mCall 3 F_misses (mAc (mVar 1) (mAc (mVar 7) (mAc (mVar 2) mA0)))) [7]) (mDc (mLc (mSeqI (mVar 3)) (setS 7) mYes (mCall 3 F_fits (mAc (mVar 1) (mAc (mVar 7) (mAc (mVar 2) mA0)))) [7]) (mDc (mCall 2 F_told (mAc (mVar 1) (mAc (mVar 2) mA0))) (mDc (mCall 2 F_is_strange (mAc (mVar 1) (mAc (mVar 2) mA0))) mD0)))))) (mSeq (mIfS (mNotT (mTru (mCall 2 F__law_alike (mAc (mVar 6) (mAc (mLst (mDc (mLc (mSeqI (mVar 3)) (setS 7) mYes (mCall 3 F__law_misses (mAc (mVar 1) (mAc (mVar 7) (mAc (mVar 2) mA0)))) [7]) (mDc (mLc (mSeqI (mVar 3)) (setS 7) mYes (mCall 3 F__law_can_be (mAc (mVar 1) (mAc (mVar 7) (mAc (mVar 2) mA0)))) [7]) (mDc (mVar 4) (mDc (mBin gEq (mVar 4) (mTup mD0)) mD0))))) mA0))))) (mRet 3 (mC (.bool false))) mNext) (mSeq (mSet (setS 6) (mLst (mDc (mCall 2 F_sure_kind (mAc (mVar 1) (mAc (mVar 2) mA0))) (mDc (mCall 2 F_sure_group (mAc (mVar 1) (mAc (mVar 2) mA0))) (mDc (mCall 2 F_groups_of (mAc (mVar 1) (mAc (mVar 4) mA0))) mD0))))) (mSeq (mIfS (mNotT (mTru (mCall 2 F__law_alike (mAc (mVar 6) (mAc (mLst (mDc (mIf (mB (mBin gEq (mUn (gSc1 lenD) (mVar 4)) (mC (.int 1)))) (mBin gIx (mVar 4) (mC (.int 0))) (mC .none)) (mDc (mIf (mB (mBin gEq (mUn (gSc1 lenD) (mVar 5)) (mC (.int 1)))) (mBin gIx (mVar 5) (mC (.int 0))) (mC .none)) (mDc (mUn gTuple (mVar 5)) mD0)))) mA0))))) (mRet 3 (mC (.bool false))) mNext) (mSeq (mSet (setS 8) (mCall 1 F__law_unread (mAc (mVar 2) mA0))) (mSeq (mSet (setS 9) (mLc (mRange1 (mUn (gSc1 lenD) (mVar 2))) (setS 10) (mB (mBin gNin (mVar 10) (mVar 8))) (mVar 10) [10])) (mSeq (mIfS (mNotT (mTru (mCall 2 F__law_alike (mAc (mLst (mDc (mCall 1 F_is_whole (mAc (mVar 2) mA0)) (mDc (mCall 1 F_read_traits (mAc (mVar 2) mA0)) (mDc (mCall 1 F_unread_traits (mAc (mVar 2) mA0)) (mDc (mCall 2 F_is_reading (mAc (mVar 1) (mAc (mVar 2) mA0))) mD0))))) (mAc (mLst (mDc (mBin gEq (mVar 8) (mLst mD0)) (mDc (mUn gTuple (mVar 9)) (mDc (mUn gTuple (mVar 8)) (mDc (mC (.bool true)) mD0))))) mA0))))) (mRet 3 (mC (.bool false))) mNext) (mSeq (mSet (setS 11) (mCall 2 F__law_take (mAc (mVar 0) (mAc (mUn (gSc1 lenD) (mVar 2)) mA0)))) (mSeq (mSet (setS 12) (mLc (mRange1 (mBin gAdd (mBin gIx (mBin gIx (mBin gIx (mVar 1) (mC (.int 2))) (mVar 11)) (mC (.int 1))) (mC (.int 1)))) (setS 13) mYes (mCall 3 F__law_with (mAc (mVar 2) (mAc (mVar 11) (mAc (mVar 13) mA0)))) [13])) (mSeq (mIfS (mNotT (mTru (mCall 2 F__law_alike (mAc (mLst (mDc (mCall 3 F_next_readings (mAc (mVar 1) (mAc (mVar 2) (mAc (mVar 11) mA0)))) (mDc (mCall 3 F_with_read (mAc (mVar 2) (mAc (mVar 11) (mAc (mUn gNeg (mC (.int 1))) mA0)))) mD0))) (mAc (mLst (mDc (mVar 12) (mDc (mCall 3 F__law_with (mAc (mVar 2) (mAc (mVar 11) (mAc (mUn gNeg (mC (.int 1))) mA0)))) mD0))) mA0))))) (mRet 3 (mC (.bool false))) mNext) (mSeq (mSet (setS 14) (mCall 2 F__law_some (mAc (mVar 0) (mAc (mBin gAdd (mLst (mDc (mCall 2 F__law_reading (mAc (mVar 0) (mAc (mVar 1) mA0))) mD0)) (mVar 12)) mA0)))) (mSeq (mSet (setS 15) (mBin gEq (mLc (mZip (mVar 2) (mVar 14)) (setT 2 (setC (setS 16) (setC (setS 17) setN))) (mAndT (mB (mBin gGe (mVar 16) (mC (.int 0)))) (mB (mBin gNe (mVar 16) (mVar 17)))) (mC (.int 1)) [16, 17]) (mLst mD0))) (mSeq (mIfS (mOrT (mNotT (mTru (mCall 2 F__law_alike (mAc (mCall 2 F_goes_on (mAc (mVar 2) (mAc (mVar 14) mA0))) (mAc (mVar 15) mA0))))) (mAndT (mTru (mVar 15)) (mB (mBin gNe (mLc (mSeqI (mCall 2 F_told (mAc (mVar 1) (mAc (mVar 14) mA0)))) (setS 7) (mB (mBin gNin (mVar 7) (mVar 4))) (mVar 7) [7]) (mLst mD0))))) (mRet 3 (mC (.bool false))) mNext) (mSeq (mSet (setS 18) (mCall 3 (F__law_bent 2) (mAc (mVar 0) (mAc (mVar 2) (mAc (mC (.int 1)) mA0))))) (mRet 3 (mCall 2 F__law_alike (mAc (mCall 2 F_is_reading (mAc (mVar 1) (mAc (mVar 18) mA0))) (mAc (mCall 2 F__law_is_reading (mAc (mVar 1) (mAc (mVar 18) mA0))) mA0)))))))))))))))))))))
abbrev s_law : Stmt := top 50
def F_law : FS := runF 1 11 [1, 2, 3, 4, 5, 6, 7, 8, 9] (mSeq (mSet (setS 1) (mCall 1 F__law_bag (mAc (mVar 0) mA0))) (mSeq (mFor (mRange1 (mC (.int 4))) (setS 2) (mSeq (mSet (setS 3) (mCall 2 F__law_turned (mAc (mVar 1) (mAc (mCall 1 F__law_book (mAc (mVar 1) mA0)) mA0)))) (mSeq (mSet (setS 4) (mCall 1 F__law_wholes (mAc (mVar 3) mA0))) (mSeq (mIfS (mNotT (mTru (mCall 2 F__law_alike (mAc (mLst (mDc (mCall 1 F_all_readings (mAc (mVar 3) mA0)) (mDc (mCall 1 F_nothing_read (mAc (mVar 3) mA0)) mD0))) (mAc (mLst (mDc (mVar 4) (mDc (mCall 1 F__law_nothing (mAc (mVar 3) mA0)) mD0))) mA0))))) (mRet 1 (mC (.bool false))) mNext) (mSeq (mFor (mSeqI (mBin gAdd (mLst (mDc (mCall 1 F__law_nothing (mAc (mVar 3) mA0)) (mDc (mCall 2 F__law_some (mAc (mVar 1) (mAc (mVar 4) mA0))) mD0))) (mLc (mRange1 (mC (.int 10))) (setS 10) mYes (mCall 2 F__law_reading (mAc (mVar 1) (mAc (mVar 3) mA0))) [10]))) (setS 5) (mIfS (mNotT (mTru (mCall 3 F__law_reading_right (mAc (mVar 1) (mAc (mVar 3) (mAc (mVar 5) mA0)))))) (mRet 1 (mC (.bool false))) mNext)) (mSeq (mSet (setS 6) (mCall 2 F__law_some (mAc (mVar 1) (mAc (mCall 1 F__law_lots (mAc (mUn (gSc1 lenD) (mBin gIx (mVar 3) (mC (.int 2)))) mA0)) mA0)))) (mSeq (mPar [8, 9] (mAc (mCall 2 F__law_take (mAc (mVar 1) (mAc (mUn (gSc1 lenD) (mBin gIx (mVar 3) (mC (.int 3)))) mA0))) (mAc (mCall 2 F__law_take (mAc (mVar 1) (mAc (mUn (gSc1 lenD) (mBin gIx (mVar 3) (mC (.int 2)))) mA0))) mA0))) (mSeq (mIfS (mNotT (mTru (mCall 2 F__law_alike (mAc (mLst (mDc (mCall 2 F_price_of (mAc (mVar 3) (mAc (mVar 6) mA0))) (mDc (mCall 3 F_shows_of (mAc (mVar 3) (mAc (mVar 8) (mAc (mVar 9) mA0)))) mD0))) (mAc (mLst (mDc (mCall 2 F__law_price (mAc (mVar 3) (mAc (mVar 6) mA0))) (mDc (mBin gIx (mBin gIx (mBin gIx (mBin gIx (mVar 3) (mC (.int 3))) (mVar 8)) (mC (.int 2))) (mVar 9)) mD0))) mA0))))) (mRet 1 (mC (.bool false))) mNext) (mFor (mSeqI (mTup (mDc (mCall 1 F__law_odd (mAc (mVar 1) mA0)) (mDc (mUn gList (mBin gIx (mVar 4) (mC (.int 0)))) (mDc (mBin gAdd (mBin gIx (mVar 4) (mC (.int 0))) (mTup (mDc (mC (.int 0)) mD0))) (mDc (mSl (mBin gIx (mVar 4) (mC (.int 0))) (mO1 (mC (.int 1))) mO0) (mDc (mUn gTuple (mLc (mSeqI (mBin gIx (mVar 3) (mC (.int 2)))) (setS 9) mYes (mC (.int 9)) [9])) mD0))))))) (setS 7) (mIfS (mNotT (mTru (mCall 2 F__law_alike (mAc (mCall 2 F_is_reading (mAc (mVar 3) (mAc (mVar 7) mA0))) (mAc (mCall 2 F__law_is_reading (mAc (mVar 3) (mAc (mVar 7) mA0))) mA0))))) (mRet 1 (mC (.bool false))) mNext)))))))))) (mRet 1 (mC (.bool true)))))
structure Fx (K : PySem.W.Frag) (mg : Str → Option Value) (base : Heap) : Prop where
  fr_abs : mg "abs" = none
  fr_all : mg "all" = none
  fr_bool : mg "bool" = none
  fr_enumerate : mg "enumerate" = none
  fr_int : mg "int" = none
  fr_isinstance : mg "isinstance" = none
  fr_len : mg "len" = none
  fr_list : mg "list" = none
  fr_range : mg "range" = none
  fr_set : mg "set" = none
  fr_sorted : mg "sorted" = none
  fr_str : mg "str" = none
  fr_sum : mg "sum" = none
  fr_tuple : mg "tuple" = none
  fr_zip : mg "zip" = none
  c_UNREAD : ∃ t, mg "UNREAD" = some (.int (-1) t)
  fd_is_integer : ∃ (f : Addr) (fd : FuncData), L2.FunD K "is_integer" "is_integer" (defArgs s_is_integer) (defBody s_is_integer) (defScope s_is_integer) [] [] f fd ∧ mg "is_integer" = some (.ref f)
  fd_is_tuple_of : ∃ (f : Addr) (fd : FuncData), L2.FunD K "is_tuple_of" "is_tuple_of" (defArgs s_is_tuple_of) (defBody s_is_tuple_of) (defScope s_is_tuple_of) [] [] f fd ∧ mg "is_tuple_of" = some (.ref f)
  fd_shows_of : ∃ (f : Addr) (fd : FuncData), L2.FunD K "shows_of" "shows_of" (defArgs s_shows_of) (defBody s_shows_of) (defScope s_shows_of) [] [] f fd ∧ mg "shows_of" = some (.ref f)
  fd_nothing_read : ∃ (f : Addr) (fd : FuncData), L2.FunD K "nothing_read" "nothing_read" (defArgs s_nothing_read) (defBody s_nothing_read) (defScope s_nothing_read) [] [] f fd ∧ mg "nothing_read" = some (.ref f)
  fd_is_whole : ∃ (f : Addr) (fd : FuncData), L2.FunD K "is_whole" "is_whole" (defArgs s_is_whole) (defBody s_is_whole) (defScope s_is_whole) [] [] f fd ∧ mg "is_whole" = some (.ref f)
  fd_read_traits : ∃ (f : Addr) (fd : FuncData), L2.FunD K "read_traits" "read_traits" (defArgs s_read_traits) (defBody s_read_traits) (defScope s_read_traits) [] [] f fd ∧ mg "read_traits" = some (.ref f)
  fd_unread_traits : ∃ (f : Addr) (fd : FuncData), L2.FunD K "unread_traits" "unread_traits" (defArgs s_unread_traits) (defBody s_unread_traits) (defScope s_unread_traits) [] [] f fd ∧ mg "unread_traits" = some (.ref f)
  fd_with_read : ∃ (f : Addr) (fd : FuncData), L2.FunD K "with_read" "with_read" (defArgs s_with_read) (defBody s_with_read) (defScope s_with_read) [] [] f fd ∧ mg "with_read" = some (.ref f)
  fd_goes_on : ∃ (f : Addr) (fd : FuncData), L2.FunD K "goes_on" "goes_on" (defArgs s_goes_on) (defBody s_goes_on) (defScope s_goes_on) [] [] f fd ∧ mg "goes_on" = some (.ref f)
  fd_groups_of : ∃ (f : Addr) (fd : FuncData), L2.FunD K "groups_of" "groups_of" (defArgs s_groups_of) (defBody s_groups_of) (defScope s_groups_of) [] [] f fd ∧ mg "groups_of" = some (.ref f)
  fd_price_of : ∃ (f : Addr) (fd : FuncData), L2.FunD K "price_of" "price_of" (defArgs s_price_of) (defBody s_price_of) (defScope s_price_of) [] [] f fd ∧ mg "price_of" = some (.ref f)
  fd_all_readings : ∃ (f : Addr) (fd : FuncData), L2.FunD K "all_readings" "all_readings" (defArgs s_all_readings) (defBody s_all_readings) (defScope s_all_readings) [] [] f fd ∧ mg "all_readings" = some (.ref f)
  fd__law_bag : ∃ (f : Addr) (fd : FuncData), L2.FunD K "_law_bag" "_law_bag" (defArgs s__law_bag) (defBody s__law_bag) (defScope s__law_bag) [] [] f fd ∧ mg "_law_bag" = some (.ref f)
  fd__law_take : ∃ (f : Addr) (fd : FuncData), L2.FunD K "_law_take" "_law_take" (defArgs s__law_take) (defBody s__law_take) (defScope s__law_take) [] [] f fd ∧ mg "_law_take" = some (.ref f)
  fd__law_is_int : ∃ (f : Addr) (fd : FuncData), L2.FunD K "_law_is_int" "_law_is_int" (defArgs s__law_is_int) (defBody s__law_is_int) (defScope s__law_is_int) [] [] f fd ∧ mg "_law_is_int" = some (.ref f)
  fd__law_alike : ∃ (f : Addr) (fd : FuncData), L2.FunD K "_law_alike" "_law_alike" (defArgs s__law_alike) (defBody s__law_alike) (defScope s__law_alike) [] [] f fd ∧ mg "_law_alike" = some (.ref f)
  fd__law_rows_of : ∃ (f : Addr) (fd : FuncData), L2.FunD K "_law_rows_of" "_law_rows_of" (defArgs s__law_rows_of) (defBody s__law_rows_of) (defScope s__law_rows_of) [] [] f fd ∧ mg "_law_rows_of" = some (.ref f)
  fd__law_nothing : ∃ (f : Addr) (fd : FuncData), L2.FunD K "_law_nothing" "_law_nothing" (defArgs s__law_nothing) (defBody s__law_nothing) (defScope s__law_nothing) [] [] f fd ∧ mg "_law_nothing" = some (.ref f)
  fd__law_with : ∃ (f : Addr) (fd : FuncData), L2.FunD K "_law_with" "_law_with" (defArgs s__law_with) (defBody s__law_with) (defScope s__law_with) [] [] f fd ∧ mg "_law_with" = some (.ref f)
  fd__law_unread : ∃ (f : Addr) (fd : FuncData), L2.FunD K "_law_unread" "_law_unread" (defArgs s__law_unread) (defBody s__law_unread) (defScope s__law_unread) [] [] f fd ∧ mg "_law_unread" = some (.ref f)
  fd__law_misses : ∃ (f : Addr) (fd : FuncData), L2.FunD K "_law_misses" "_law_misses" (defArgs s__law_misses) (defBody s__law_misses) (defScope s__law_misses) [] [] f fd ∧ mg "_law_misses" = some (.ref f)
  fd__law_groups : ∃ (f : Addr) (fd : FuncData), L2.FunD K "_law_groups" "_law_groups" (defArgs s__law_groups) (defBody s__law_groups) (defScope s__law_groups) [] [] f fd ∧ mg "_law_groups" = some (.ref f)
  fd__law_price : ∃ (f : Addr) (fd : FuncData), L2.FunD K "_law_price" "_law_price" (defArgs s__law_price) (defBody s__law_price) (defScope s__law_price) [] [] f fd ∧ mg "_law_price" = some (.ref f)
  fd__law_lots : ∃ (f : Addr) (fd : FuncData), L2.FunD K "_law_lots" "_law_lots" (defArgs s__law_lots) (defBody s__law_lots) (defScope s__law_lots) [] [] f fd ∧ mg "_law_lots" = some (.ref f) ∧ ∃ c P, fd.code = .ref c ∧ LamX.TabB base mg c P ∧ (P, (("_law_lots" : Str) ++ ".<locals>.") ++ "<lambda>") ∈ TabsC.tabs ∧ ∀ p ∈ TabsC.tabs, p.1 = P → p.2 = (("_law_lots" : Str) ++ ".<locals>.") ++ "<lambda>"
  fd_is_within : ∃ (f : Addr) (fd : FuncData), L2.FunD K "is_within" "is_within" (defArgs s_is_within) (defBody s_is_within) (defScope s_is_within) [] [] f fd ∧ mg "is_within" = some (.ref f)
  fd_misses : ∃ (f : Addr) (fd : FuncData), L2.FunD K "misses" "misses" (defArgs s_misses) (defBody s_misses) (defScope s_misses) [] [] f fd ∧ mg "misses" = some (.ref f)
  fd_next_readings : ∃ (f : Addr) (fd : FuncData), L2.FunD K "next_readings" "next_readings" (defArgs s_next_readings) (defBody s_next_readings) (defScope s_next_readings) [] [] f fd ∧ mg "next_readings" = some (.ref f)
  fd__law_some : ∃ (f : Addr) (fd : FuncData), L2.FunD K "_law_some" "_law_some" (defArgs s__law_some) (defBody s__law_some) (defScope s__law_some) [] [] f fd ∧ mg "_law_some" = some (.ref f)
  fd__law_told : ∃ (f : Addr) (fd : FuncData), L2.FunD K "_law_told" "_law_told" (defArgs s__law_told) (defBody s__law_told) (defScope s__law_told) [] [] f fd ∧ mg "_law_told" = some (.ref f)
  fd__law_wholes : ∃ (f : Addr) (fd : FuncData), L2.FunD K "_law_wholes" "_law_wholes" (defArgs s__law_wholes) (defBody s__law_wholes) (defScope s__law_wholes) [] [] f fd ∧ mg "_law_wholes" = some (.ref f)
  fd__law_states : ∃ (f : Addr) (fd : FuncData), L2.FunD K "_law_states" "_law_states" (defArgs s__law_states) (defBody s__law_states) (defScope s__law_states) [] [] f fd ∧ mg "_law_states" = some (.ref f)
  fd__law_reading : ∃ (f : Addr) (fd : FuncData), L2.FunD K "_law_reading" "_law_reading" (defArgs s__law_reading) (defBody s__law_reading) (defScope s__law_reading) [] [] f fd ∧ mg "_law_reading" = some (.ref f)
  fd__law_is_reading : ∃ (f : Addr) (fd : FuncData), L2.FunD K "_law_is_reading" "_law_is_reading" (defArgs s__law_is_reading) (defBody s__law_is_reading) (defScope s__law_is_reading) [] [] f fd ∧ mg "_law_is_reading" = some (.ref f)
  fd__law_can_be : ∃ (f : Addr) (fd : FuncData), L2.FunD K "_law_can_be" "_law_can_be" (defArgs s__law_can_be) (defBody s__law_can_be) (defScope s__law_can_be) [] [] f fd ∧ mg "_law_can_be" = some (.ref f)
  fd_is_reading : ∃ (f : Addr) (fd : FuncData), L2.FunD K "is_reading" "is_reading" (defArgs s_is_reading) (defBody s_is_reading) (defScope s_is_reading) [] [] f fd ∧ mg "is_reading" = some (.ref f)
  fd_fits : ∃ (f : Addr) (fd : FuncData), L2.FunD K "fits" "fits" (defArgs s_fits) (defBody s_fits) (defScope s_fits) [] [] f fd ∧ mg "fits" = some (.ref f)
  fd__law_odd : ∃ (f : Addr) (fd : FuncData), L2.FunD K "_law_odd" "_law_odd" (defArgs s__law_odd) (defBody s__law_odd) (defScope s__law_odd) [] [] f fd ∧ mg "_law_odd" = some (.ref f)
  fd__law_a_kind : ∃ (f : Addr) (fd : FuncData), L2.FunD K "_law_a_kind" "_law_a_kind" (defArgs s__law_a_kind) (defBody s__law_a_kind) (defScope s__law_a_kind) [] [] f fd ∧ mg "_law_a_kind" = some (.ref f)
  fd_told : ∃ (f : Addr) (fd : FuncData), L2.FunD K "told" "told" (defArgs s_told) (defBody s_told) (defScope s_told) [] [] f fd ∧ mg "told" = some (.ref f)
  fd__law_bent : ∃ (f : Addr) (fd : FuncData), L2.FunD K "_law_bent" "_law_bent" (defArgs s__law_bent) (defBody s__law_bent) (defScope s__law_bent) [] [] f fd ∧ mg "_law_bent" = some (.ref f)
  fd__law_book : ∃ (f : Addr) (fd : FuncData), L2.FunD K "_law_book" "_law_book" (defArgs s__law_book) (defBody s__law_book) (defScope s__law_book) [] [] f fd ∧ mg "_law_book" = some (.ref f)
  fd__law_turned : ∃ (f : Addr) (fd : FuncData), L2.FunD K "_law_turned" "_law_turned" (defArgs s__law_turned) (defBody s__law_turned) (defScope s__law_turned) [] [] f fd ∧ mg "_law_turned" = some (.ref f)
  fd_is_strange : ∃ (f : Addr) (fd : FuncData), L2.FunD K "is_strange" "is_strange" (defArgs s_is_strange) (defBody s_is_strange) (defScope s_is_strange) [] [] f fd ∧ mg "is_strange" = some (.ref f)
  fd_sure_kind : ∃ (f : Addr) (fd : FuncData), L2.FunD K "sure_kind" "sure_kind" (defArgs s_sure_kind) (defBody s_sure_kind) (defScope s_sure_kind) [] [] f fd ∧ mg "sure_kind" = some (.ref f)
  fd_sure_group : ∃ (f : Addr) (fd : FuncData), L2.FunD K "sure_group" "sure_group" (defArgs s_sure_group) (defBody s_sure_group) (defScope s_sure_group) [] [] f fd ∧ mg "sure_group" = some (.ref f)
  fd__law_reading_right : ∃ (f : Addr) (fd : FuncData), L2.FunD K "_law_reading_right" "_law_reading_right" (defArgs s__law_reading_right) (defBody s__law_reading_right) (defScope s__law_reading_right) [] [] f fd ∧ mg "_law_reading_right" = some (.ref f)
  fd_law : ∃ (f : Addr) (fd : FuncData), L2.FunD K "law" "law" (defArgs s_law) (defBody s_law) (defScope s_law) [] [] f fd ∧ mg "law" = some (.ref f)
variable {P : Program} {w : World} {K : PySem.W.Frag} {mg : Str → Option Value} {base : Heap}
theorem sc_is_integer : FnScope ["thing"] ["thing"] (defScope s_is_integer) := ⟨rfl, rfl, rfl, by decide +kernel, rfl, by decide +kernel, by decide +kernel⟩
theorem ok_is_integer (S : Fx K mg base) : DefOk P w K mg base 1 "is_integer" 1 F_is_integer := by
  obtain ⟨f, fd, FD, hm⟩ := S.fd_is_integer
  exact okMD (ps := ["thing"]) FD sc_is_integer hm (fun _ _ _ _ _ _ us hl => match us, hl with | [_], _ => rfl) fun cdv A outer s H E c => dss_w (dss_one (ds_ret 1 (d_and (d_isi .int (d_var 0) S.fr_isinstance S.fr_int) (d_one (d_not (d_isi .bool (d_var 0) S.fr_isinstance S.fr_bool)))))) (by decide)
theorem sc_is_tuple_of : FnScope ["thing", "many"] ["thing", "many"] (defScope s_is_tuple_of) := ⟨rfl, rfl, rfl, by decide +kernel, rfl, by decide +kernel, by decide +kernel⟩
theorem ok_is_tuple_of (S : Fx K mg base) : DefOk P w K mg base 1 "is_tuple_of" 2 F_is_tuple_of := by
  obtain ⟨f, fd, FD, hm⟩ := S.fd_is_tuple_of
  exact okMD (ps := ["thing", "many"]) FD sc_is_tuple_of hm (fun _ _ _ _ _ _ us hl => match us, hl with | [_, _], _ => rfl) fun cdv A outer s H E c => dss_w (dss_one (ds_ret 2 (d_and (d_isi .tup (d_var 0) S.fr_isinstance S.fr_tuple) (d_one (d_eq c (d_len (d_var 0) S.fr_len) (d_var 1)))))) (by decide)
theorem sc_shows_of : FnScope ["book", "kind", "trait"] ["book", "kind", "trait"] (defScope s_shows_of) := ⟨rfl, rfl, rfl, by decide +kernel, rfl, by decide +kernel, by decide +kernel⟩
theorem ok_shows_of (S : Fx K mg base) : DefOk P w K mg base 1 "shows_of" 3 F_shows_of := by
  obtain ⟨f, fd, FD, hm⟩ := S.fd_shows_of
  exact okMD (ps := ["book", "kind", "trait"]) FD sc_shows_of hm (fun _ _ _ _ _ _ us hl => match us, hl with | [_, _, _], _ => rfl) fun cdv A outer s H E c => dss_w (dss_one (ds_ret 3 (d_ix (d_ix (d_ix (d_ix (d_var 0) d_int) (d_var 1)) d_int) (d_var 2)))) (by decide)
theorem sc_nothing_read : FnScope ["book"] ["book"] (defScope s_nothing_read) := ⟨rfl, rfl, rfl, by decide +kernel, rfl, by decide +kernel, by decide +kernel⟩
theorem ok_nothing_read (S : Fx K mg base) : DefOk P w K mg base 1 "nothing_read" 1 F_nothing_read := by
  obtain ⟨tk_UNREAD, hc_UNREAD⟩ := S.c_UNREAD
  obtain ⟨f, fd, FD, hm⟩ := S.fd_nothing_read
  exact okMD (ps := ["book"]) FD sc_nothing_read hm (fun _ _ _ _ _ _ us hl => match us, hl with | [_], _ => rfl) fun cdv A outer s H E c => dss_w (dss_one (ds_ret 1 (d_mul (d_tup (da_cons (d_glob (v := .int (-1)) hc_UNREAD ⟨_, rfl⟩ fun _ => .int _) da_nil)) (d_len (d_ix (d_var 0) d_int) S.fr_len)))) (by decide)
theorem sc_is_whole : FnScope ["reading"] ["reading"] (defScope s_is_whole) := ⟨rfl, rfl, rfl, by decide +kernel, rfl, by decide +kernel, by decide +kernel⟩
theorem ok_is_whole (S : Fx K mg base) : DefOk P w K mg base 1 "is_whole" 1 F_is_whole := by
  obtain ⟨tk_UNREAD, hc_UNREAD⟩ := S.c_UNREAD
  obtain ⟨f, fd, FD, hm⟩ := S.fd_is_whole
  exact okMD (ps := ["reading"]) FD sc_is_whole hm (fun _ _ _ _ _ _ us hl => match us, hl with | [_], _ => rfl) fun cdv A outer s H E c => dss_w (dss_one (ds_ret 1 (d_nin (d_glob (v := .int (-1)) hc_UNREAD ⟨_, rfl⟩ fun _ => .int _) (d_var 0)))) (by decide)
theorem sc_read_traits : FnScope ["reading", "trait", "state"] ["reading"] (defScope s_read_traits) := ⟨rfl, rfl, rfl, by decide +kernel, rfl, by decide +kernel, by decide +kernel⟩
theorem ok_read_traits (S : Fx K mg base) : DefOk P w K mg base 1 "read_traits" 1 F_read_traits := by
  obtain ⟨tk_UNREAD, hc_UNREAD⟩ := S.c_UNREAD
  obtain ⟨f, fd, FD, hm⟩ := S.fd_read_traits
  exact okMD (ps := ["reading"]) FD sc_read_traits hm (fun _ _ _ _ _ _ us hl => match us, hl with | [_], _ => rfl) fun cdv A outer s H E c => dss_w (dss_one (ds_ret 1 (d_tuple (d_lc (own := [("trait", 1), ("state", 2)]) c (di_enum (d_var 0) S.fr_enumerate) (blkOk_by (by rfl)) (fun _ _ _ _ _ => (dg_w (dg_tup (c.blk _ _ _ _ _) (dgs_cons (dg_name 1 (c.blk _ _ _ _ _)) (dgs_cons (dg_name 2 (c.blk _ _ _ _ _)) dgs_nil))) (by decide))) (fun _ _ _ _ _ => (dts_one (dt_ne (c.blk _ _ _ _ _) (d_var 2) (d_glob (v := .int (-1)) hc_UNREAD ⟨_, rfl⟩ fun _ => .int _)))) (fun _ _ _ _ _ => (d_var 1))) S.fr_tuple))) (by decide)
theorem sc_unread_traits : FnScope ["reading", "trait", "state"] ["reading"] (defScope s_unread_traits) := ⟨rfl, rfl, rfl, by decide +kernel, rfl, by decide +kernel, by decide +kernel⟩
theorem ok_unread_traits (S : Fx K mg base) : DefOk P w K mg base 1 "unread_traits" 1 F_unread_traits := by
  obtain ⟨tk_UNREAD, hc_UNREAD⟩ := S.c_UNREAD
  obtain ⟨f, fd, FD, hm⟩ := S.fd_unread_traits
  exact okMD (ps := ["reading"]) FD sc_unread_traits hm (fun _ _ _ _ _ _ us hl => match us, hl with | [_], _ => rfl) fun cdv A outer s H E c => dss_w (dss_one (ds_ret 1 (d_tuple (d_lc (own := [("trait", 1), ("state", 2)]) c (di_enum (d_var 0) S.fr_enumerate) (blkOk_by (by rfl)) (fun _ _ _ _ _ => (dg_w (dg_tup (c.blk _ _ _ _ _) (dgs_cons (dg_name 1 (c.blk _ _ _ _ _)) (dgs_cons (dg_name 2 (c.blk _ _ _ _ _)) dgs_nil))) (by decide))) (fun _ _ _ _ _ => (dts_one (dt_eq (c.blk _ _ _ _ _) (d_var 2) (d_glob (v := .int (-1)) hc_UNREAD ⟨_, rfl⟩ fun _ => .int _)))) (fun _ _ _ _ _ => (d_var 1))) S.fr_tuple))) (by decide)
theorem sc_with_read : FnScope ["reading", "trait", "state"] ["reading", "trait", "state"] (defScope s_with_read) := ⟨rfl, rfl, rfl, by decide +kernel, rfl, by decide +kernel, by decide +kernel⟩
theorem ok_with_read (S : Fx K mg base) : DefOk P w K mg base 1 "with_read" 3 F_with_read := by
  obtain ⟨f, fd, FD, hm⟩ := S.fd_with_read
  exact okMD (ps := ["reading", "trait", "state"]) FD sc_with_read hm (fun _ _ _ _ _ _ us hl => match us, hl with | [_, _, _], _ => rfl) fun cdv A outer s H E c => dss_w (dss_one (ds_ret 3 (d_tup (da_star (d_sl (d_var 0) do_none (do_some (d_var 1))) (da_cons (d_var 2) (da_star (d_sl (d_var 0) (do_some (d_add (d_var 1) d_int)) do_none) da_nil)))))) (by decide)
theorem sc_goes_on : FnScope ["reading", "other", "state", "its"] ["reading", "other"] (defScope s_goes_on) := ⟨rfl, rfl, rfl, by decide +kernel, rfl, by decide +kernel, by decide +kernel⟩
theorem ok_goes_on (S : Fx K mg base) : DefOk P w K mg base 1 "goes_on" 2 F_goes_on := by
  obtain ⟨tk_UNREAD, hc_UNREAD⟩ := S.c_UNREAD
  obtain ⟨f, fd, FD, hm⟩ := S.fd_goes_on
  exact okMD (ps := ["reading", "other"]) FD sc_goes_on hm (fun _ _ _ _ _ _ us hl => match us, hl with | [_, _], _ => rfl) fun cdv A outer s H E c => dss_w (dss_one (ds_ret 2 (d_all c (d_lc (own := [("state", 2), ("its", 3)]) c (di_zip (d_var 0) (d_var 1) S.fr_zip) (blkOk_by (by rfl)) (fun _ _ _ _ _ => (dg_w (dg_tup (c.blk _ _ _ _ _) (dgs_cons (dg_name 2 (c.blk _ _ _ _ _)) (dgs_cons (dg_name 3 (c.blk _ _ _ _ _)) dgs_nil))) (by decide))) (fun _ _ _ _ _ => dts_nil) (fun _ _ _ _ _ => (d_in (d_var 2) (d_tup (da_cons (d_glob (v := .int (-1)) hc_UNREAD ⟨_, rfl⟩ fun _ => .int _) (da_cons (d_var 3) da_nil)))))) S.fr_all))) (by decide)
theorem sc_groups_of : FnScope ["book", "lot", "kind"] ["book", "lot"] (defScope s_groups_of) := ⟨rfl, rfl, rfl, by decide +kernel, rfl, by decide +kernel, by decide +kernel⟩
theorem ok_groups_of (S : Fx K mg base) : DefOk P w K mg base 1 "groups_of" 2 F_groups_of := by
  obtain ⟨f, fd, FD, hm⟩ := S.fd_groups_of
  exact okMD (ps := ["book", "lot"]) FD sc_groups_of hm (fun _ _ _ _ _ _ us hl => match us, hl with | [_, _], _ => rfl) fun cdv A outer s H E c => dss_w (dss_one (ds_ret 2 (d_tuple (d_sortD c (d_dc (own := [("kind", 2)]) c (di_seq (d_var 1)) (blkOk_by (by rfl)) (fun _ _ _ _ _ => (dg_w (dg_name 2 (c.blk _ _ _ _ _)) (by decide))) (fun _ _ _ _ _ => dts_nil) (fun _ _ _ _ _ => (d_ix (d_ix (d_ix (d_var 0) d_int) (d_var 2)) d_int)) (fun _ _ _ _ _ => d_bl)) S.fr_sorted) S.fr_tuple))) (by decide)
theorem sc_price_of : FnScope ["book", "lot", "trait"] ["book", "lot"] (defScope s_price_of) := ⟨rfl, rfl, rfl, by decide +kernel, rfl, by decide +kernel, by decide +kernel⟩
theorem ok_price_of (S : Fx K mg base) : DefOk P w K mg base 1 "price_of" 2 F_price_of := by
  obtain ⟨f, fd, FD, hm⟩ := S.fd_price_of
  exact okMD (ps := ["book", "lot"]) FD sc_price_of hm (fun _ _ _ _ _ _ us hl => match us, hl with | [_, _], _ => rfl) fun cdv A outer s H E c => dss_w (dss_one (ds_ret 2 (d_sum c (d_lc (own := [("trait", 2)]) c (di_seq (d_var 1)) (blkOk_by (by rfl)) (fun _ _ _ _ _ => (dg_w (dg_name 2 (c.blk _ _ _ _ _)) (by decide))) (fun _ _ _ _ _ => dts_nil) (fun _ _ _ _ _ => (d_ix (d_ix (d_ix (d_var 0) d_int) (d_var 2)) d_int))) S.fr_sum))) (by decide)
theorem sc_all_readings : FnScope ["book", "found", "name", "most", "price", "row", "state"] ["book"] (defScope s_all_readings) := ⟨rfl, rfl, rfl, by decide +kernel, rfl, by decide +kernel, by decide +kernel⟩
theorem ok_all_readings (S : Fx K mg base) : DefOk P w K mg base 1 "all_readings" 1 F_all_readings := by
  obtain ⟨f, fd, FD, hm⟩ := S.fd_all_readings
  exact okMD (ps := ["book"]) FD sc_all_readings hm (fun _ _ _ _ _ _ us hl => match us, hl with | [_], _ => rfl) fun cdv A outer s H E c => dss_w (dss_cons (ds_set 1 c (d_lst (da_cons (d_tup da_nil) da_nil))) (dss_cons (ds_for PassesOwn.never c.calm (di_seq (d_ix (d_var 0) d_int)) (dg_tup c (dgs_cons (dg_name 2 c) (dgs_cons (dg_name 3 c) (dgs_cons (dg_name 4 c) dgs_nil)))) (dss_one (ds_setLc2 1 (own := [("row", 5), ("state", 6)]) (vs1 := [6]) c (di_seq (d_var 1)) (blkOk_by (by rfl)) (by decide) (fun _ _ _ _ _ => (dg_w (dg_name 5 (c.blk _ _ _ _ _)) (by decide))) (fun _ _ _ _ _ => (di_range1 (d_add (d_var 3) d_int) S.fr_range)) (fun _ _ _ _ _ => (dg_w (dg_name 6 (c.blk _ _ _ _ _)) (by decide))) (fun _ _ _ _ _ => (d_tup (da_star (d_var 5) (da_cons (d_var 6) da_nil)))) (by rfl) (sw_true rfl rfl rfl (by decide +kernel))))) (dss_one (ds_ret 1 (d_var 1))))) (by decide)
theorem sc__law_bag : FnScope ["script", "cell"] ["script"] (defScope s__law_bag) := ⟨rfl, rfl, rfl, by decide +kernel, rfl, by decide +kernel, by decide +kernel⟩
theorem ok__law_bag (S : Fx K mg base) : DefOk P w K mg base 1 "_law_bag" 1 F__law_bag := by
  obtain ⟨f, fd, FD, hm⟩ := S.fd__law_bag
  exact okMD (ps := ["script"]) FD sc__law_bag hm (fun _ _ _ _ _ _ us hl => match us, hl with | [_], _ => rfl) fun cdv A outer s H E c => dss_w (dss_one (ds_ret 1 (d_lst (da_cons d_int (da_cons d_int (da_cons d_int (da_cons (d_lc (own := [("cell", 1)]) c (di_seq (d_sl (d_var 0) do_none (do_some d_int))) (blkOk_by (by rfl)) (fun _ _ _ _ _ => (dg_w (dg_name 1 (c.blk _ _ _ _ _)) (by decide))) (fun _ _ _ _ _ => dts_nil) (fun _ _ _ _ _ => (d_abs (d_var 1) S.fr_abs))) da_nil))))))) (by decide)
theorem sc__law_take : FnScope ["bag", "many", "cell", "stirred", "value", "begin", "second"] ["bag", "many"] (defScope s__law_take) := ⟨rfl, rfl, rfl, by decide +kernel, rfl, by decide +kernel, by decide +kernel⟩
theorem ok__law_take (S : Fx K mg base) : DefOk P w K mg base 1 "_law_take" 2 F__law_take := by
  obtain ⟨f, fd, FD, hm⟩ := S.fd__law_take
  exact okMD (ps := ["bag", "many"]) FD sc__law_take hm (fun _ _ _ _ _ _ us hl => match us, hl with | [_, _], _ => rfl) fun cdv A outer s H E c => dss_w (dss_cons (ds_if (dt_eq c (d_ix (d_var 0) d_int) d_int) (dss_cons (ds_set 2 c (d_ix (d_add (d_sl (d_ix (d_var 0) d_int) (do_some (d_ix (d_var 0) d_int)) do_none) (d_lst (da_cons d_int da_nil))) d_int)) (dss_cons (ds_augIx 0 ip_add (d_var 0) d_int d_int) (dss_cons (ds_if (dt_ge (d_var 2) (d_pow d_int d_int)) (dss_one (ds_setIx 0 (d_var 2) (d_var 0) d_int)) dss_nil) (dss_cons (ds_set 3 c (d_add (d_add (d_mul (d_ix (d_var 0) d_int) d_int) (d_mod (d_intc (d_var 2) S.fr_int) d_int)) (d_mul d_int (d_ix (d_var 0) d_int)))) (dss_one (ds_setIx 0 (d_mod (d_intc (d_var 3) S.fr_int) d_int) (d_var 0) d_int)))))) dss_nil) (dss_cons (ds_if (dt_gt (d_ix (d_var 0) d_int) d_int) (dss_cons (ds_set 4 c (d_mod (d_intc (d_ix (d_var 0) d_int) S.fr_int) (d_var 1))) (dss_cons (ds_setIx 0 (d_fdiv (d_intc (d_ix (d_var 0) d_int) S.fr_int) (d_var 1)) (d_var 0) d_int) (dss_one (ds_ret 2 (d_var 4))))) dss_nil) (dss_cons (ds_set 5 c (d_mod (d_intc (d_mul (d_add (d_ix (d_var 0) d_int) d_int) d_int) S.fr_int) d_int)) (dss_cons (ds_set 6 c (d_mod (d_intc (d_mul (d_mod (d_intc (d_mul (d_var 5) (d_var 5)) S.fr_int) d_int) d_int) S.fr_int) d_int)) (dss_one (ds_ret 2 (d_mod (d_intc (d_fdiv (d_var 6) d_int) S.fr_int) (d_var 1)))))))) (by decide)
theorem sc__law_is_int : FnScope ["thing"] ["thing"] (defScope s__law_is_int) := ⟨rfl, rfl, rfl, by decide +kernel, rfl, by decide +kernel, by decide +kernel⟩
theorem ok__law_is_int (S : Fx K mg base) : DefOk P w K mg base 1 "_law_is_int" 1 F__law_is_int := by
  obtain ⟨f, fd, FD, hm⟩ := S.fd__law_is_int
  exact okMD (ps := ["thing"]) FD sc__law_is_int hm (fun _ _ _ _ _ _ us hl => match us, hl with | [_], _ => rfl) fun cdv A outer s H E c => dss_w (dss_one (ds_ret 1 (d_and (d_isi .int (d_var 0) S.fr_isinstance S.fr_int) (d_one (d_not (d_isi .bool (d_var 0) S.fr_isinstance S.fr_bool)))))) (by decide)
theorem sc__law_alike : FnScope ["found", "due", "pairs", "at", "one", "other"] ["found", "due"] (defScope s__law_alike) := ⟨rfl, rfl, rfl, by decide +kernel, rfl, by decide +kernel, by decide +kernel⟩
theorem ok__law_alike (S : Fx K mg base) : DefOk P w K mg base 1 "_law_alike" 2 F__law_alike := by
  obtain ⟨f, fd, FD, hm⟩ := S.fd__law_alike
  exact okMD (ps := ["found", "due"]) FD sc__law_alike hm (fun _ _ _ _ _ _ us hl => match us, hl with | [_, _], _ => rfl) fun cdv A outer s H E c => dss_w (dss_cons (ds_par 2 3 c (dr_cons (d_lst (da_cons (d_tup (da_cons (d_var 0) (da_cons (d_var 1) da_nil))) da_nil)) (dr_cons d_int dr_nil))) (dss_cons (ds_while fuel PassesOwn.never (dt_lt (d_var 3) (d_len (d_var 2) S.fr_len)) (dss_cons (ds_asg (d_ix (d_var 2) (d_var 3)) (dg_tup c (dgs_cons (dg_name 4 c) (dgs_cons (dg_name 5 c) dgs_nil)))) (dss_cons (ds_aug 3 ip_add c d_int) (dss_cons (ds_if (PW.pt (dw_or (dt_ne c (d_isi .bool (d_var 4) S.fr_isinstance S.fr_bool) (d_isi .bool (d_var 5) S.fr_isinstance S.fr_bool)) (dw_or1 (dt_ne c (d_isi .str (d_var 4) S.fr_isinstance S.fr_str) (d_isi .str (d_var 5) S.fr_isinstance S.fr_str))))) (dss_one (ds_ret 2 d_bl)) dss_nil) (dss_cons (ds_if (dt_ne c (d_isi2 .tup .lst (d_var 4) S.fr_isinstance S.fr_tuple S.fr_list) (d_isi2 .tup .lst (d_var 5) S.fr_isinstance S.fr_tuple S.fr_list)) (dss_one (ds_ret 2 d_bl)) dss_nil) (dss_one (ds_if (dt_tru (d_isi2 .tup .lst (d_var 4) S.fr_isinstance S.fr_tuple S.fr_list)) (dss_cons (ds_if (PW.pt (dw_or (dt_ne c (d_isi .tup (d_var 4) S.fr_isinstance S.fr_tuple) (d_isi .tup (d_var 5) S.fr_isinstance S.fr_tuple)) (dw_or1 (dt_ne c (d_len (d_var 4) S.fr_len) (d_len (d_var 5) S.fr_len))))) (dss_one (ds_ret 2 d_bl)) dss_nil) (dss_one (ds_expr (d_ext 2 (d_var 2) (d_listZip c (d_var 4) (d_var 5) S.fr_list S.fr_zip))))) (dss_one (ds_if (dt_ne c (d_var 4) (d_var 5)) (dss_one (ds_ret 2 d_bl)) dss_nil))))))))) (dss_one (ds_ret 2 d_bl)))) (by decide)
theorem sc__law_rows_of : FnScope ["columns", "found", "some", "longer", "row", "one"] ["columns"] (defScope s__law_rows_of) := ⟨rfl, rfl, rfl, by decide +kernel, rfl, by decide +kernel, by decide +kernel⟩
theorem ok__law_rows_of (S : Fx K mg base) : DefOk P w K mg base 1 "_law_rows_of" 1 F__law_rows_of := by
  obtain ⟨f, fd, FD, hm⟩ := S.fd__law_rows_of
  exact okMD (ps := ["columns"]) FD sc__law_rows_of hm (fun _ _ _ _ _ _ us hl => match us, hl with | [_], _ => rfl) fun cdv A outer s H E c => dss_w (dss_cons (ds_set 1 c (d_lst (da_cons (d_tup da_nil) da_nil))) (dss_cons (ds_for PassesOwn.never c.calm (di_seq (d_var 0)) (dg_name 2 c) (dss_cons (ds_set 3 c (d_lst da_nil)) (dss_cons (ds_for PassesOwn.never c.calm (di_seq (d_var 1)) (dg_name 4 c) (dss_one (ds_set 3 c (d_add (d_var 3) (d_lc (own := [("one", 5)]) c (di_seq (d_var 2)) (blkOk_by (by rfl)) (fun _ _ _ _ _ => (dg_w (dg_name 5 (c.blk _ _ _ _ _)) (by decide))) (fun _ _ _ _ _ => dts_nil) (fun _ _ _ _ _ => (d_add (d_var 4) (d_tup (da_cons (d_var 5) da_nil))))))))) (dss_one (ds_set 1 c (d_var 3)))))) (dss_one (ds_ret 1 (d_var 1))))) (by decide)
theorem sc__law_nothing : FnScope ["book"] ["book"] (defScope s__law_nothing) := ⟨rfl, rfl, rfl, by decide +kernel, rfl, by decide +kernel, by decide +kernel⟩
theorem ok__law_nothing (S : Fx K mg base) : DefOk P w K mg base 1 "_law_nothing" 1 F__law_nothing := by
  obtain ⟨f, fd, FD, hm⟩ := S.fd__law_nothing
  exact okMD (ps := ["book"]) FD sc__law_nothing hm (fun _ _ _ _ _ _ us hl => match us, hl with | [_], _ => rfl) fun cdv A outer s H E c => dss_w (dss_one (ds_ret 1 (d_mul (d_tup (da_cons (d_neg d_int) da_nil)) (d_len (d_ix (d_var 0) d_int) S.fr_len)))) (by decide)
theorem sc__law_with : FnScope ["reading", "trait", "state"] ["reading", "trait", "state"] (defScope s__law_with) := ⟨rfl, rfl, rfl, by decide +kernel, rfl, by decide +kernel, by decide +kernel⟩
theorem ok__law_with (S : Fx K mg base) : DefOk P w K mg base 1 "_law_with" 3 F__law_with := by
  obtain ⟨f, fd, FD, hm⟩ := S.fd__law_with
  exact okMD (ps := ["reading", "trait", "state"]) FD sc__law_with hm (fun _ _ _ _ _ _ us hl => match us, hl with | [_, _, _], _ => rfl) fun cdv A outer s H E c => dss_w (dss_one (ds_ret 3 (d_add (d_add (d_sl (d_var 0) do_none (do_some (d_var 1))) (d_tup (da_cons (d_var 2) da_nil))) (d_sl (d_var 0) (do_some (d_add (d_var 1) d_int)) do_none)))) (by decide)
theorem sc__law_unread : FnScope ["reading", "trait", "state"] ["reading"] (defScope s__law_unread) := ⟨rfl, rfl, rfl, by decide +kernel, rfl, by decide +kernel, by decide +kernel⟩
theorem ok__law_unread (S : Fx K mg base) : DefOk P w K mg base 1 "_law_unread" 1 F__law_unread := by
  obtain ⟨f, fd, FD, hm⟩ := S.fd__law_unread
  exact okMD (ps := ["reading"]) FD sc__law_unread hm (fun _ _ _ _ _ _ us hl => match us, hl with | [_], _ => rfl) fun cdv A outer s H E c => dss_w (dss_one (ds_ret 1 (d_lc (own := [("trait", 1), ("state", 2)]) c (di_enum (d_var 0) S.fr_enumerate) (blkOk_by (by rfl)) (fun _ _ _ _ _ => (dg_w (dg_tup (c.blk _ _ _ _ _) (dgs_cons (dg_name 1 (c.blk _ _ _ _ _)) (dgs_cons (dg_name 2 (c.blk _ _ _ _ _)) dgs_nil))) (by decide))) (fun _ _ _ _ _ => (dts_one (dt_lt (d_var 2) d_int))) (fun _ _ _ _ _ => (d_var 1))))) (by decide)
theorem sc__law_misses : FnScope ["book", "kind", "reading", "at", "state"] ["book", "kind", "reading"] (defScope s__law_misses) := ⟨rfl, rfl, rfl, by decide +kernel, rfl, by decide +kernel, by decide +kernel⟩
theorem ok__law_misses (S : Fx K mg base) : DefOk P w K mg base 1 "_law_misses" 3 F__law_misses := by
  obtain ⟨f, fd, FD, hm⟩ := S.fd__law_misses
  exact okMD (ps := ["book", "kind", "reading"]) FD sc__law_misses hm (fun _ _ _ _ _ _ us hl => match us, hl with | [_, _, _], _ => rfl) fun cdv A outer s H E c => dss_w (dss_one (ds_ret 3 (d_tuple (d_lc (own := [("at", 3), ("state", 4)]) c (di_enum (d_var 2) S.fr_enumerate) (blkOk_by (by rfl)) (fun _ _ _ _ _ => (dg_w (dg_tup (c.blk _ _ _ _ _) (dgs_cons (dg_name 3 (c.blk _ _ _ _ _)) (dgs_cons (dg_name 4 (c.blk _ _ _ _ _)) dgs_nil))) (by decide))) (fun _ _ _ _ _ => (dts_one (PW.pt (dw_and (dt_ge (d_var 4) d_int) (dw_and1 (dt_nin (d_var 4) (d_ix (d_ix (d_ix (d_ix (d_var 0) d_int) (d_var 1)) d_int) (d_var 3)))))))) (fun _ _ _ _ _ => (d_var 3))) S.fr_tuple))) (by decide)
theorem sc__law_groups : FnScope ["book", "lot", "kind"] ["book", "lot"] (defScope s__law_groups) := ⟨rfl, rfl, rfl, by decide +kernel, rfl, by decide +kernel, by decide +kernel⟩
theorem ok__law_groups (S : Fx K mg base) : DefOk P w K mg base 1 "_law_groups" 2 F__law_groups := by
  obtain ⟨f, fd, FD, hm⟩ := S.fd__law_groups
  exact okMD (ps := ["book", "lot"]) FD sc__law_groups hm (fun _ _ _ _ _ _ us hl => match us, hl with | [_, _], _ => rfl) fun cdv A outer s H E c => dss_w (dss_one (ds_ret 2 (d_sortSet c (d_lc (own := [("kind", 2)]) c (di_seq (d_var 1)) (blkOk_by (by rfl)) (fun _ _ _ _ _ => (dg_w (dg_name 2 (c.blk _ _ _ _ _)) (by decide))) (fun _ _ _ _ _ => dts_nil) (fun _ _ _ _ _ => (d_ix (d_ix (d_ix (d_var 0) d_int) (d_var 2)) d_int))) S.fr_sorted S.fr_set))) (by decide)
theorem sc__law_price : FnScope ["book", "lot", "trait"] ["book", "lot"] (defScope s__law_price) := ⟨rfl, rfl, rfl, by decide +kernel, rfl, by decide +kernel, by decide +kernel⟩
theorem ok__law_price (S : Fx K mg base) : DefOk P w K mg base 1 "_law_price" 2 F__law_price := by
  obtain ⟨f, fd, FD, hm⟩ := S.fd__law_price
  exact okMD (ps := ["book", "lot"]) FD sc__law_price hm (fun _ _ _ _ _ _ us hl => match us, hl with | [_, _], _ => rfl) fun cdv A outer s H E c => dss_w (dss_one (ds_ret 2 (d_sum c (d_lc (own := [("trait", 2)]) c (di_seq (d_var 1)) (blkOk_by (by rfl)) (fun _ _ _ _ _ => (dg_w (dg_name 2 (c.blk _ _ _ _ _)) (by decide))) (fun _ _ _ _ _ => dts_nil) (fun _ _ _ _ _ => (d_ix (d_ix (d_ix (d_var 0) d_int) (d_var 2)) d_int))) S.fr_sum))) (by decide)
theorem sc__law_lots : FnScope ["many", "found", "at", "lot"] ["many"] (defScope s__law_lots) := ⟨rfl, rfl, rfl, by decide +kernel, rfl, by decide +kernel, by decide +kernel⟩
theorem ok__law_lots (S : Fx K mg base) : DefOk P w K mg base 1 "_law_lots" 1 F__law_lots := by
  obtain ⟨f, fd, FD, hm, c0, P0, hcd, TB, hlm, hlu⟩ := S.fd__law_lots
  exact okMC (ps := ["many"]) FD sc__law_lots hm hcd (fun _ _ _ _ _ _ us hl => match us, hl with | [_], _ => rfl) fun A outer s H E c => dss_w (dss_cons (ds_set 1 c (d_lst (da_cons (d_tup da_nil) da_nil))) (dss_cons (ds_for PassesOwn.never c.calm (di_range1 (d_var 0) S.fr_range) (dg_name 2 c) (dss_one (ds_set 1 c (d_add (d_var 1) (d_lc (own := [("lot", 3)]) c (di_seq (d_var 1)) (blkOk_by (by rfl)) (fun _ _ _ _ _ => (dg_w (dg_name 3 (c.blk _ _ _ _ _)) (by decide))) (fun _ _ _ _ _ => dts_nil) (fun _ _ _ _ _ => (d_add (d_var 3) (d_tup (da_cons (d_var 2) da_nil))))))))) (dss_one (ds_ret 1 (d_sortLen c TB rfl hlm hlu (d_var 1) S.fr_sorted S.fr_len))))) (by decide)
theorem sc_is_within : FnScope ["thing", "least", "most"] ["thing", "least", "most"] (defScope s_is_within) := ⟨rfl, rfl, rfl, by decide +kernel, rfl, by decide +kernel, by decide +kernel⟩
theorem ok_is_within (S : Fx K mg base) : DefOk P w K mg base 2 "is_within" 3 F_is_within := by
  obtain ⟨f, fd, FD, hm⟩ := S.fd_is_within
  exact okMD (ps := ["thing", "least", "most"]) FD sc_is_within hm (fun _ _ _ _ _ _ us hl => match us, hl with | [_, _, _], _ => rfl) fun cdv A outer s H E c => dss_w (dss_one (ds_ret 3 (d_and (d_callD (ok_is_integer S) c (by omega) (dr_cons (d_var 0) dr_nil)) (d_one (d_lele (d_var 1) (d_var 0) (d_var 2)))))) (by decide)
theorem sc_misses : FnScope ["book", "kind", "reading", "at"] ["book", "kind", "reading"] (defScope s_misses) := ⟨rfl, rfl, rfl, by decide +kernel, rfl, by decide +kernel, by decide +kernel⟩
theorem ok_misses (S : Fx K mg base) : DefOk P w K mg base 2 "misses" 3 F_misses := by
  obtain ⟨f, fd, FD, hm⟩ := S.fd_misses
  exact okMD (ps := ["book", "kind", "reading"]) FD sc_misses hm (fun _ _ _ _ _ _ us hl => match us, hl with | [_, _, _], _ => rfl) fun cdv A outer s H E c => dss_w (dss_one (ds_ret 3 (d_tuple (d_lc (own := [("at", 3)]) c (di_seq (d_callD (ok_read_traits S) c (by omega) (dr_cons (d_var 2) dr_nil))) (blkOk_by (by rfl)) (fun _ _ _ _ _ => (dg_w (dg_name 3 (c.blk _ _ _ _ _)) (by decide))) (fun _ _ _ _ _ => (dts_one (dt_nin (d_ix (d_var 2) (d_var 3)) (d_callD (ok_shows_of S) (c.blk _ _ _ _ _) (by omega) (dr_cons (d_var 0) (dr_cons (d_var 1) (dr_cons (d_var 3) dr_nil))))))) (fun _ _ _ _ _ => (d_var 3))) S.fr_tuple))) (by decide)
theorem sc_next_readings : FnScope ["book", "reading", "trait", "state"] ["book", "reading", "trait"] (defScope s_next_readings) := ⟨rfl, rfl, rfl, by decide +kernel, rfl, by decide +kernel, by decide +kernel⟩
theorem ok_next_readings (S : Fx K mg base) : DefOk P w K mg base 2 "next_readings" 3 F_next_readings := by
  obtain ⟨f, fd, FD, hm⟩ := S.fd_next_readings
  exact okMD (ps := ["book", "reading", "trait"]) FD sc_next_readings hm (fun _ _ _ _ _ _ us hl => match us, hl with | [_, _, _], _ => rfl) fun cdv A outer s H E c => dss_w (dss_one (ds_ret 3 (d_lc (own := [("state", 3)]) c (di_range1 (d_add (d_ix (d_ix (d_ix (d_var 0) d_int) (d_var 2)) d_int) d_int) S.fr_range) (blkOk_by (by rfl)) (fun _ _ _ _ _ => (dg_w (dg_name 3 (c.blk _ _ _ _ _)) (by decide))) (fun _ _ _ _ _ => dts_nil) (fun _ _ _ _ _ => (d_callD (ok_with_read S) (c.blk _ _ _ _ _) (by omega) (dr_cons (d_var 1) (dr_cons (d_var 2) (dr_cons (d_var 3) dr_nil)))))))) (by decide)
theorem sc__law_some : FnScope ["bag", "things"] ["bag", "things"] (defScope s__law_some) := ⟨rfl, rfl, rfl, by decide +kernel, rfl, by decide +kernel, by decide +kernel⟩
theorem ok__law_some (S : Fx K mg base) : DefOk P w K mg base 2 "_law_some" 2 F__law_some := by
  obtain ⟨f, fd, FD, hm⟩ := S.fd__law_some
  exact okMD (ps := ["bag", "things"]) FD sc__law_some hm (fun _ _ _ _ _ _ us hl => match us, hl with | [_, _], _ => rfl) fun cdv A outer s H E c => dss_w (dss_one (ds_ret 2 (d_ix (d_var 1) (d_callD (ok__law_take S) c (by omega) (dr_cons (d_var 0) (dr_cons (d_len (d_var 1) S.fr_len) dr_nil)))))) (by decide)
theorem sc__law_told : FnScope ["book", "reading", "kind"] ["book", "reading"] (defScope s__law_told) := ⟨rfl, rfl, rfl, by decide +kernel, rfl, by decide +kernel, by decide +kernel⟩
theorem ok__law_told (S : Fx K mg base) : DefOk P w K mg base 2 "_law_told" 2 F__law_told := by
  obtain ⟨f, fd, FD, hm⟩ := S.fd__law_told
  exact okMD (ps := ["book", "reading"]) FD sc__law_told hm (fun _ _ _ _ _ _ us hl => match us, hl with | [_, _], _ => rfl) fun cdv A outer s H E c => dss_w (dss_one (ds_ret 2 (d_tuple (d_lc (own := [("kind", 2)]) c (di_range1 (d_len (d_ix (d_var 0) d_int) S.fr_len) S.fr_range) (blkOk_by (by rfl)) (fun _ _ _ _ _ => (dg_w (dg_name 2 (c.blk _ _ _ _ _)) (by decide))) (fun _ _ _ _ _ => (dts_one (dt_le (d_len (d_callD (ok__law_misses S) (c.blk _ _ _ _ _) (by omega) (dr_cons (d_var 0) (dr_cons (d_var 2) (dr_cons (d_var 1) dr_nil)))) S.fr_len) (d_ix (d_var 0) d_int)))) (fun _ _ _ _ _ => (d_var 2))) S.fr_tuple))) (by decide)
theorem sc__law_wholes : FnScope ["book", "name", "most", "price"] ["book"] (defScope s__law_wholes) := ⟨rfl, rfl, rfl, by decide +kernel, rfl, by decide +kernel, by decide +kernel⟩
theorem ok__law_wholes (S : Fx K mg base) : DefOk P w K mg base 2 "_law_wholes" 1 F__law_wholes := by
  obtain ⟨f, fd, FD, hm⟩ := S.fd__law_wholes
  exact okMD (ps := ["book"]) FD sc__law_wholes hm (fun _ _ _ _ _ _ us hl => match us, hl with | [_], _ => rfl) fun cdv A outer s H E c => dss_w (dss_one (ds_ret 1 (d_callD (ok__law_rows_of S) c (by omega) (dr_cons (d_lc (own := [("name", 1), ("most", 2), ("price", 3)]) c (di_seq (d_ix (d_var 0) d_int)) (blkOk_by (by rfl)) (fun _ _ _ _ _ => (dg_w (dg_tup (c.blk _ _ _ _ _) (dgs_cons (dg_name 1 (c.blk _ _ _ _ _)) (dgs_cons (dg_name 2 (c.blk _ _ _ _ _)) (dgs_cons (dg_name 3 (c.blk _ _ _ _ _)) dgs_nil)))) (by decide))) (fun _ _ _ _ _ => dts_nil) (fun _ _ _ _ _ => (d_listRg (c.blk _ _ _ _ _) (d_add (d_var 2) d_int) S.fr_list S.fr_range))) dr_nil)))) (by decide)
theorem sc__law_states : FnScope ["bag", "most", "some", "state"] ["bag", "most"] (defScope s__law_states) := ⟨rfl, rfl, rfl, by decide +kernel, rfl, by decide +kernel, by decide +kernel⟩
theorem ok__law_states (S : Fx K mg base) : DefOk P w K mg base 2 "_law_states" 2 F__law_states := by
  obtain ⟨f, fd, FD, hm⟩ := S.fd__law_states
  exact okMD (ps := ["bag", "most"]) FD sc__law_states hm (fun _ _ _ _ _ _ us hl => match us, hl with | [_, _], _ => rfl) fun cdv A outer s H E c => dss_w (dss_cons (ds_setLc 2 (own := [("state", 3)]) c (di_range1 (d_add (d_var 1) d_int) S.fr_range) (blkOk_by (by rfl)) (fun _ _ _ _ _ => (dg_w (dg_name 3 (c.blk _ _ _ _ _)) (by decide))) (fun _ _ _ _ _ => (dts_one (dt_eq (c.blk _ _ _ _ _) (d_callD (ok__law_take S) (c.blk _ _ _ _ _) (by omega) (dr_cons (d_var 0) (dr_cons d_int dr_nil))) d_int))) (fun _ _ _ _ _ => (d_var 3)) (by rfl) (sw_true rfl rfl rfl (by decide +kernel))) (dss_one (ds_ret 2 (d_if (dt_ne c (d_var 2) (d_lst da_nil)) (d_tuple (d_var 2) S.fr_tuple) (d_tup (da_cons (d_callD (ok__law_take S) c (by omega) (dr_cons (d_var 0) (dr_cons (d_add (d_var 1) d_int) dr_nil))) da_nil)))))) (by decide)
theorem sc__law_reading : FnScope ["bag", "book", "name", "most", "price"] ["bag", "book"] (defScope s__law_reading) := ⟨rfl, rfl, rfl, by decide +kernel, rfl, by decide +kernel, by decide +kernel⟩
theorem ok__law_reading (S : Fx K mg base) : DefOk P w K mg base 2 "_law_reading" 2 F__law_reading := by
  obtain ⟨f, fd, FD, hm⟩ := S.fd__law_reading
  exact okMD (ps := ["bag", "book"]) FD sc__law_reading hm (fun _ _ _ _ _ _ us hl => match us, hl with | [_, _], _ => rfl) fun cdv A outer s H E c => dss_w (dss_one (ds_ret 2 (d_tuple (d_lc (own := [("name", 2), ("most", 3), ("price", 4)]) c (di_seq (d_ix (d_var 1) d_int)) (blkOk_by (by rfl)) (fun _ _ _ _ _ => (dg_w (dg_tup (c.blk _ _ _ _ _) (dgs_cons (dg_name 2 (c.blk _ _ _ _ _)) (dgs_cons (dg_name 3 (c.blk _ _ _ _ _)) (dgs_cons (dg_name 4 (c.blk _ _ _ _ _)) dgs_nil)))) (by decide))) (fun _ _ _ _ _ => dts_nil) (fun _ _ _ _ _ => (d_sub (d_callD (ok__law_take S) (c.blk _ _ _ _ _) (by omega) (dr_cons (d_var 0) (dr_cons (d_add (d_var 3) d_int) dr_nil))) d_int))) S.fr_tuple))) (by decide)
theorem sc__law_is_reading : FnScope ["book", "thing", "trait", "one"] ["book", "thing"] (defScope s__law_is_reading) := ⟨rfl, rfl, rfl, by decide +kernel, rfl, by decide +kernel, by decide +kernel⟩
theorem ok__law_is_reading (S : Fx K mg base) : DefOk P w K mg base 2 "_law_is_reading" 2 F__law_is_reading := by
  obtain ⟨f, fd, FD, hm⟩ := S.fd__law_is_reading
  exact okMD (ps := ["book", "thing"]) FD sc__law_is_reading hm (fun _ _ _ _ _ _ us hl => match us, hl with | [_, _], _ => rfl) fun cdv A outer s H E c => dss_w (dss_cons (ds_if (PW.pt (dw_or (dt_not (dt_tru (d_isi .tup (d_var 1) S.fr_isinstance S.fr_tuple))) (dw_or1 (dt_ne c (d_len (d_var 1) S.fr_len) (d_len (d_ix (d_var 0) d_int) S.fr_len))))) (dss_one (ds_ret 2 d_bl)) dss_nil) (dss_one (ds_ret 2 (d_eq c (d_lc (own := [("trait", 2), ("one", 3)]) c (di_zip (d_ix (d_var 0) d_int) (d_var 1) S.fr_zip) (blkOk_by (by rfl)) (fun _ _ _ _ _ => (dg_w (dg_tup (c.blk _ _ _ _ _) (dgs_cons (dg_name 2 (c.blk _ _ _ _ _)) (dgs_cons (dg_name 3 (c.blk _ _ _ _ _)) dgs_nil))) (by decide))) (fun _ _ _ _ _ => (dts_one (PW.pt (dw_or (dt_not (dt_tru (d_callD (ok__law_is_int S) (c.blk _ _ _ _ _) (by omega) (dr_cons (d_var 3) dr_nil)))) (dw_or1 (dt_not (dt_lele (d_neg d_int) (d_var 3) (d_ix (d_var 2) d_int)))))))) (fun _ _ _ _ _ => d_int)) (d_lst da_nil))))) (by decide)
theorem sc__law_can_be : FnScope ["book", "kind", "reading", "thing", "states", "one", "its"] ["book", "kind", "reading"] (defScope s__law_can_be) := ⟨rfl, rfl, rfl, by decide +kernel, rfl, by decide +kernel, by decide +kernel⟩
theorem ok__law_can_be (S : Fx K mg base) : DefOk P w K mg base 2 "_law_can_be" 3 F__law_can_be := by
  obtain ⟨f, fd, FD, hm⟩ := S.fd__law_can_be
  exact okMD (ps := ["book", "kind", "reading"]) FD sc__law_can_be hm (fun _ _ _ _ _ _ us hl => match us, hl with | [_, _, _], _ => rfl) fun cdv A outer s H E c => dss_w (dss_cons (ds_for PassesOwn.never c.calm (di_seq (d_callD (ok__law_rows_of S) c (by omega) (dr_cons (d_lc (own := [("states", 4)]) c (di_seq (d_ix (d_ix (d_ix (d_var 0) d_int) (d_var 1)) d_int)) (blkOk_by (by rfl)) (fun _ _ _ _ _ => (dg_w (dg_name 4 (c.blk _ _ _ _ _)) (by decide))) (fun _ _ _ _ _ => dts_nil) (fun _ _ _ _ _ => (d_list (d_var 4) S.fr_list))) dr_nil))) (dg_name 3 c) (dss_one (ds_if (dt_le (d_len (d_lc (own := [("one", 5), ("its", 6)]) c (di_zip (d_var 2) (d_var 3) S.fr_zip) (blkOk_by (by rfl)) (fun _ _ _ _ _ => (dg_w (dg_tup (c.blk _ _ _ _ _) (dgs_cons (dg_name 5 (c.blk _ _ _ _ _)) (dgs_cons (dg_name 6 (c.blk _ _ _ _ _)) dgs_nil))) (by decide))) (fun _ _ _ _ _ => (dts_one (PW.pt (dw_and (dt_ge (d_var 5) d_int) (dw_and1 (dt_ne (c.blk _ _ _ _ _) (d_var 5) (d_var 6))))))) (fun _ _ _ _ _ => d_int)) S.fr_len) (d_ix (d_var 0) d_int)) (dss_one (ds_ret 3 d_bl)) dss_nil))) (dss_one (ds_ret 3 d_bl))) (by decide)
theorem sc_is_reading : FnScope ["book", "thing", "trait", "state"] ["book", "thing"] (defScope s_is_reading) := ⟨rfl, rfl, rfl, by decide +kernel, rfl, by decide +kernel, by decide +kernel⟩
theorem ok_is_reading (S : Fx K mg base) : DefOk P w K mg base 3 "is_reading" 2 F_is_reading := by
  obtain ⟨tk_UNREAD, hc_UNREAD⟩ := S.c_UNREAD
  obtain ⟨f, fd, FD, hm⟩ := S.fd_is_reading
  exact okMD (ps := ["book", "thing"]) FD sc_is_reading hm (fun _ _ _ _ _ _ us hl => match us, hl with | [_, _], _ => rfl) fun cdv A outer s H E c => dss_w (dss_cons (ds_if (dt_not (dt_tru (d_callD (ok_is_tuple_of S) c (by omega) (dr_cons (d_var 1) (dr_cons (d_len (d_ix (d_var 0) d_int) S.fr_len) dr_nil))))) (dss_one (ds_ret 2 d_bl)) dss_nil) (dss_one (ds_ret 2 (d_all c (d_lc (own := [("trait", 2), ("state", 3)]) c (di_zip (d_ix (d_var 0) d_int) (d_var 1) S.fr_zip) (blkOk_by (by rfl)) (fun _ _ _ _ _ => (dg_w (dg_tup (c.blk _ _ _ _ _) (dgs_cons (dg_name 2 (c.blk _ _ _ _ _)) (dgs_cons (dg_name 3 (c.blk _ _ _ _ _)) dgs_nil))) (by decide))) (fun _ _ _ _ _ => dts_nil) (fun _ _ _ _ _ => (d_callD (ok_is_within S) (c.blk _ _ _ _ _) (by omega) (dr_cons (d_var 3) (dr_cons (d_glob (v := .int (-1)) hc_UNREAD ⟨_, rfl⟩ fun _ => .int _) (dr_cons (d_ix (d_var 2) d_int) dr_nil)))))) S.fr_all)))) (by decide)
theorem sc_fits : FnScope ["book", "kind", "reading"] ["book", "kind", "reading"] (defScope s_fits) := ⟨rfl, rfl, rfl, by decide +kernel, rfl, by decide +kernel, by decide +kernel⟩
theorem ok_fits (S : Fx K mg base) : DefOk P w K mg base 3 "fits" 3 F_fits := by
  obtain ⟨f, fd, FD, hm⟩ := S.fd_fits
  exact okMD (ps := ["book", "kind", "reading"]) FD sc_fits hm (fun _ _ _ _ _ _ us hl => match us, hl with | [_, _, _], _ => rfl) fun cdv A outer s H E c => dss_w (dss_one (ds_ret 3 (d_le (d_len (d_callD (ok_misses S) c (by omega) (dr_cons (d_var 0) (dr_cons (d_var 1) (dr_cons (d_var 2) dr_nil)))) S.fr_len) (d_ix (d_var 0) d_int)))) (by decide)
theorem sc__law_odd : FnScope ["bag", "some"] ["bag"] (defScope s__law_odd) := ⟨rfl, rfl, rfl, by decide +kernel, rfl, by decide +kernel, by decide +kernel⟩
theorem ok__law_odd (S : Fx K mg base) : DefOk P w K mg base 3 "_law_odd" 1 F__law_odd := by
  obtain ⟨f, fd, FD, hm⟩ := S.fd__law_odd
  exact okMD (ps := ["bag"]) FD sc__law_odd hm (fun _ _ _ _ _ _ us hl => match us, hl with | [_], _ => rfl) fun cdv A outer s H E c => dss_w (dss_cons (ds_set 1 c (d_lst (da_cons d_non (da_cons d_bl (da_cons d_bl (da_cons d_int (da_cons (d_neg d_int) (da_cons d_int (da_cons (d_pow d_int d_int) (da_cons d_str (da_cons d_str (da_cons d_str (da_cons (d_tup da_nil) (da_cons (d_lst da_nil) (da_cons d_dict0 (da_cons (d_tup (da_cons d_int da_nil)) (da_cons (d_tup (da_cons (d_tup da_nil) da_nil)) (da_cons (d_lst (da_cons d_int da_nil)) (da_cons (d_dict1 d_int) (da_cons (d_tup (da_cons (d_tup (da_cons d_int (da_cons d_int da_nil))) da_nil)) (da_cons (d_tup (da_cons d_str (da_cons d_int da_nil))) da_nil))))))))))))))))))))) (dss_one (ds_ret 1 (d_callD (ok__law_some S) c (by omega) (dr_cons (d_var 0) (dr_cons (d_var 1) dr_nil)))))) (by decide)
theorem sc__law_a_kind : FnScope ["bag", "name", "traits", "trait", "most", "price"] ["bag", "name", "traits"] (defScope s__law_a_kind) := ⟨rfl, rfl, rfl, by decide +kernel, rfl, by decide +kernel, by decide +kernel⟩
theorem ok__law_a_kind (S : Fx K mg base) : DefOk P w K mg base 3 "_law_a_kind" 3 F__law_a_kind := by
  obtain ⟨f, fd, FD, hm⟩ := S.fd__law_a_kind
  exact okMD (ps := ["bag", "name", "traits"]) FD sc__law_a_kind hm (fun _ _ _ _ _ _ us hl => match us, hl with | [_, _, _], _ => rfl) fun cdv A outer s H E c => dss_w (dss_one (ds_ret 3 (d_tup (da_cons (d_var 1) (da_cons (d_callD (ok__law_some S) c (by omega) (dr_cons (d_var 0) (dr_cons (d_lst (da_cons d_str (da_cons d_str da_nil))) dr_nil))) (da_cons (d_tuple (d_lc (own := [("trait", 3), ("most", 4), ("price", 5)]) c (di_seq (d_var 2)) (blkOk_by (by rfl)) (fun _ _ _ _ _ => (dg_w (dg_tup (c.blk _ _ _ _ _) (dgs_cons (dg_name 3 (c.blk _ _ _ _ _)) (dgs_cons (dg_name 4 (c.blk _ _ _ _ _)) (dgs_cons (dg_name 5 (c.blk _ _ _ _ _)) dgs_nil)))) (by decide))) (fun _ _ _ _ _ => dts_nil) (fun _ _ _ _ _ => (d_callD (ok__law_states S) (c.blk _ _ _ _ _) (by omega) (dr_cons (d_var 0) (dr_cons (d_var 4) dr_nil))))) S.fr_tuple) da_nil)))))) (by decide)
theorem sc_told : FnScope ["book", "reading", "kind"] ["book", "reading"] (defScope s_told) := ⟨rfl, rfl, rfl, by decide +kernel, rfl, by decide +kernel, by decide +kernel⟩
theorem ok_told (S : Fx K mg base) : DefOk P w K mg base 4 "told" 2 F_told := by
  obtain ⟨f, fd, FD, hm⟩ := S.fd_told
  exact okMD (ps := ["book", "reading"]) FD sc_told hm (fun _ _ _ _ _ _ us hl => match us, hl with | [_, _], _ => rfl) fun cdv A outer s H E c => dss_w (dss_one (ds_ret 2 (d_tuple (d_lc (own := [("kind", 2)]) c (di_range1 (d_len (d_ix (d_var 0) d_int) S.fr_len) S.fr_range) (blkOk_by (by rfl)) (fun _ _ _ _ _ => (dg_w (dg_name 2 (c.blk _ _ _ _ _)) (by decide))) (fun _ _ _ _ _ => (dts_one (dt_tru (d_callD (ok_fits S) (c.blk _ _ _ _ _) (by omega) (dr_cons (d_var 0) (dr_cons (d_var 2) (dr_cons (d_var 1) dr_nil))))))) (fun _ _ _ _ _ => (d_var 2))) S.fr_tuple))) (by decide)
theorem sc__law_bent : FnScope ["bag", "thing", "depth", "at", "longer"] ["bag", "thing", "depth"] (defScope s__law_bent) := ⟨rfl, rfl, rfl, by decide +kernel, rfl, by decide +kernel, by decide +kernel⟩
theorem ok__law_bent (S : Fx K mg base) : ∀ r, DefOk P w K mg base (4 + r) "_law_bent" 3 (F__law_bent r)
  | 0 => by
    obtain ⟨f, fd, FD, hm⟩ := S.fd__law_bent
    exact DefOk.bot (ps := ["bag", "thing", "depth"]) FD hm (fun _ _ _ _ _ _ us hl => match us, hl with | [_, _, _], _ => rfl)
  | r + 1 => by
    have Gr := ok__law_bent S r
    obtain ⟨f, fd, FD, hm⟩ := S.fd__law_bent
    exact okMD (k := 4 + r) (ps := ["bag", "thing", "depth"]) FD sc__law_bent hm (fun _ _ _ _ _ _ us hl => match us, hl with | [_, _, _], _ => rfl) fun cdv A outer s H E c => dss_w (dss_cons (ds_if (PW.pt (dw_and (dt_tru (d_isi .tup (d_var 1) S.fr_isinstance S.fr_tuple)) (dw_and (dt_ne c (d_var 1) (d_tup da_nil)) (dw_and (dt_gt (d_var 2) d_int) (dw_and1 (dt_gt (d_callD (ok__law_take S) c (by omega) (dr_cons (d_var 0) (dr_cons d_int dr_nil))) d_int)))))) (dss_cons (ds_set 3 c (d_callD (ok__law_take S) c (by omega) (dr_cons (d_var 0) (dr_cons (d_len (d_var 1) S.fr_len) dr_nil)))) (dss_one (ds_ret 3 (d_add (d_add (d_sl (d_var 1) do_none (do_some (d_var 3))) (d_tup (da_cons (d_callD Gr c (by omega) (dr_cons (d_var 0) (dr_cons (d_ix (d_var 1) (d_var 3)) (dr_cons (d_sub (d_var 2) d_int) dr_nil)))) da_nil))) (d_sl (d_var 1) (do_some (d_add (d_var 3) d_int)) do_none))))) dss_nil) (dss_cons (ds_if (dt_tru (d_isi .bool (d_var 1) S.fr_isinstance S.fr_bool)) (dss_one (ds_ret 3 (d_callD (ok__law_some S) c (by omega) (dr_cons (d_var 0) (dr_cons (d_lst (da_cons (d_not (d_var 1)) (da_cons (d_intc (d_var 1) S.fr_int) (da_cons d_non da_nil)))) dr_nil))))) dss_nil) (dss_cons (ds_if (dt_tru (d_isi .int (d_var 1) S.fr_isinstance S.fr_int)) (dss_one (ds_ret 3 (d_callD (ok__law_some S) c (by omega) (dr_cons (d_var 0) (dr_cons (d_lst (da_cons (d_add (d_var 1) d_int) (da_cons (d_sub (d_var 1) d_int) (da_cons (d_neg (d_var 1)) (da_cons (d_eq c (d_var 1) d_int) (da_cons (d_tup (da_cons (d_var 1) da_nil)) (da_cons (d_pow d_int d_int) da_nil))))))) dr_nil))))) dss_nil) (dss_cons (ds_if (PW.pt (dw_and (dt_tru (d_isi .tup (d_var 1) S.fr_isinstance S.fr_tuple)) (dw_and1 (dt_ne c (d_var 1) (d_tup da_nil))))) (dss_cons (ds_set 3 c (d_callD (ok__law_take S) c (by omega) (dr_cons (d_var 0) (dr_cons (d_len (d_var 1) S.fr_len) dr_nil)))) (dss_cons (ds_set 4 c (d_add (d_add (d_sl (d_var 1) do_none (do_some (d_var 3))) (d_tup (da_cons (d_ix (d_var 1) (d_var 3)) da_nil))) (d_sl (d_var 1) (do_some (d_var 3)) do_none))) (dss_one (ds_ret 3 (d_callD (ok__law_some S) c (by omega) (dr_cons (d_var 0) (dr_cons (d_lst (da_cons (d_list (d_var 1) S.fr_list) (da_cons (d_add (d_sl (d_var 1) do_none (do_some (d_var 3))) (d_sl (d_var 1) (do_some (d_add (d_var 3) d_int)) do_none)) (da_cons (d_var 4) (da_cons (d_rev (d_var 1)) (da_cons (d_callD (ok__law_odd S) c (by omega) (dr_cons (d_var 0) dr_nil)) da_nil)))))) dr_nil))))))) dss_nil) (dss_one (ds_ret 3 (d_callD (ok__law_odd S) c (by omega) (dr_cons (d_var 0) dr_nil)))))))) (by decide)
theorem sc__law_book : FnScope ["bag", "names", "traits", "name", "kinds"] ["bag"] (defScope s__law_book) := ⟨rfl, rfl, rfl, by decide +kernel, rfl, by decide +kernel, by decide +kernel⟩
theorem ok__law_book (S : Fx K mg base) : DefOk P w K mg base 4 "_law_book" 1 F__law_book := by
  obtain ⟨f, fd, FD, hm⟩ := S.fd__law_book
  exact okMD (ps := ["bag"]) FD sc__law_book hm (fun _ _ _ _ _ _ us hl => match us, hl with | [_], _ => rfl) fun cdv A outer s H E c => dss_w (dss_cons (ds_set 1 c (d_sl (d_lst (da_cons d_str (da_cons d_str (da_cons d_str (da_cons d_str da_nil))))) do_none (do_some (d_add d_int (d_callD (ok__law_take S) c (by omega) (dr_cons (d_var 0) (dr_cons d_int dr_nil))))))) (dss_cons (ds_set 2 c (d_tuple (d_lc (own := [("name", 3)]) c (di_seq (d_var 1)) (blkOk_by (by rfl)) (fun _ _ _ _ _ => (dg_w (dg_name 3 (c.blk _ _ _ _ _)) (by decide))) (fun _ _ _ _ _ => dts_nil) (fun _ _ _ _ _ => (d_tup (da_cons (d_var 3) (da_cons (d_add d_int (d_callD (ok__law_take S) (c.blk _ _ _ _ _) (by omega) (dr_cons (d_var 0) (dr_cons d_int dr_nil)))) (da_cons (d_add d_int (d_callD (ok__law_take S) (c.blk _ _ _ _ _) (by omega) (dr_cons (d_var 0) (dr_cons d_int dr_nil)))) da_nil)))))) S.fr_tuple)) (dss_cons (ds_set 4 c (d_tuple (d_lc (own := [("name", 3)]) c (di_seq (d_sl (d_lst (da_cons d_str (da_cons d_str (da_cons d_str (da_cons d_str (da_cons d_str da_nil)))))) do_none (do_some (d_add d_int (d_callD (ok__law_take S) c (by omega) (dr_cons (d_var 0) (dr_cons d_int dr_nil))))))) (blkOk_by (by rfl)) (fun _ _ _ _ _ => (dg_w (dg_name 3 (c.blk _ _ _ _ _)) (by decide))) (fun _ _ _ _ _ => dts_nil) (fun _ _ _ _ _ => (d_callD (ok__law_a_kind S) (c.blk _ _ _ _ _) (by omega) (dr_cons (d_var 0) (dr_cons (d_var 3) (dr_cons (d_var 2) dr_nil)))))) S.fr_tuple)) (dss_one (ds_ret 1 (d_tup (da_cons d_str (da_cons (d_callD (ok__law_some S) c (by omega) (dr_cons (d_var 0) (dr_cons (d_lst (da_cons d_int (da_cons d_int (da_cons d_int (da_cons d_int (da_cons d_int da_nil)))))) dr_nil))) (da_cons (d_var 2) (da_cons (d_var 4) da_nil)))))))))) (by decide)
theorem sc__law_turned : FnScope ["bag", "book", "name", "errors", "traits", "kinds", "way", "at", "trait", "own", "group", "shows", "price", "fresh", "one", "kind", "more"] ["bag", "book"] (defScope s__law_turned) := ⟨rfl, rfl, rfl, by decide +kernel, rfl, by decide +kernel, by decide +kernel⟩
theorem ok__law_turned (S : Fx K mg base) : DefOk P w K mg base 4 "_law_turned" 2 F__law_turned := by
  obtain ⟨f, fd, FD, hm⟩ := S.fd__law_turned
  exact okMD (ps := ["bag", "book"]) FD sc__law_turned hm (fun _ _ _ _ _ _ us hl => match us, hl with | [_, _], _ => rfl) fun cdv A outer s H E c => dss_w (dss_cons (ds_asg (d_var 1) (dg_tup c (dgs_cons (dg_name 2 c) (dgs_cons (dg_name 3 c) (dgs_cons (dg_name 4 c) (dgs_cons (dg_name 5 c) dgs_nil)))))) (dss_cons (ds_par3 6 7 8 c (dr_cons (d_callD (ok__law_take S) c (by omega) (dr_cons (d_var 0) (dr_cons d_int dr_nil))) (dr_cons (d_callD (ok__law_take S) c (by omega) (dr_cons (d_var 0) (dr_cons (d_len (d_var 5) S.fr_len) dr_nil))) (dr_cons (d_callD (ok__law_take S) c (by omega) (dr_cons (d_var 0) (dr_cons (d_len (d_var 4) S.fr_len) dr_nil))) dr_nil)))) (dss_cons (ds_asg (d_ix (d_var 5) (d_var 7)) (dg_tup c (dgs_cons (dg_name 9 c) (dgs_cons (dg_name 10 c) (dgs_cons (dg_name 11 c) dgs_nil))))) (dss_cons (ds_if (dt_eq c (d_var 6) d_int) (dss_one (ds_ret 2 (d_tup (da_cons (d_var 2) (da_cons (d_callD (ok__law_take S) c (by omega) (dr_cons (d_var 0) (dr_cons d_int dr_nil))) (da_cons (d_var 4) (da_cons (d_var 5) da_nil))))))) dss_nil) (dss_cons (ds_if (dt_eq c (d_var 6) d_int) (dss_cons (ds_set 12 c (d_add (d_sl (d_ix (d_var 4) (d_var 8)) do_none (do_some d_int)) (d_tup (da_cons (d_add d_int (d_callD (ok__law_take S) c (by omega) (dr_cons (d_var 0) (dr_cons d_int dr_nil)))) da_nil)))) (dss_one (ds_ret 2 (d_tup (da_cons (d_var 2) (da_cons (d_var 3) (da_cons (d_add (d_add (d_sl (d_var 4) do_none (do_some (d_var 8))) (d_tup (da_cons (d_var 12) da_nil))) (d_sl (d_var 4) (do_some (d_add (d_var 8) d_int)) do_none)) (da_cons (d_var 5) da_nil)))))))) dss_nil) (dss_cons (ds_if (PW.pt (dw_and (dt_eq c (d_var 6) d_int) (dw_and1 (dt_lt (d_len (d_var 5) S.fr_len) d_int)))) (dss_cons (ds_setLc 13 (own := [("one", 14)]) c (di_seq (d_lst (da_cons d_str (da_cons d_str (da_cons d_str (da_cons d_str (da_cons d_str (da_cons d_str (da_cons d_str da_nil))))))))) (blkOk_by (by rfl)) (fun _ _ _ _ _ => (dg_w (dg_name 14 (c.blk _ _ _ _ _)) (by decide))) (fun _ _ _ _ _ => (dts_one (dt_nin (d_var 14) (d_lc (own := [("kind", 15)]) (c.blk _ _ _ _ _) (di_seq (d_var 5)) (blkOk_by (by rfl)) (fun _ _ _ _ _ => (dg_w (dg_name 15 ((c.blk _ _ _ _ _).blk _ _ _ _ _)) (by decide))) (fun _ _ _ _ _ => dts_nil) (fun _ _ _ _ _ => (d_ix (d_var 15) d_int)))))) (fun _ _ _ _ _ => (d_var 14)) (by rfl) (sw_true rfl rfl rfl (by decide +kernel))) (dss_one (ds_ret 2 (d_tup (da_cons (d_var 2) (da_cons (d_var 3) (da_cons (d_var 4) (da_cons (d_add (d_add (d_sl (d_var 5) do_none (do_some (d_var 7))) (d_tup (da_cons (d_callD (ok__law_a_kind S) c (by omega) (dr_cons (d_var 0) (dr_cons (d_ix (d_var 13) d_int) (dr_cons (d_var 4) dr_nil)))) da_nil))) (d_sl (d_var 5) (do_some (d_var 7)) do_none)) da_nil)))))))) dss_nil) (dss_cons (ds_if (PW.pt (dw_and (dt_eq c (d_var 6) d_int) (dw_and1 (dt_gt (d_len (d_var 5) S.fr_len) d_int)))) (dss_one (ds_ret 2 (d_tup (da_cons (d_var 2) (da_cons (d_var 3) (da_cons (d_var 4) (da_cons (d_add (d_sl (d_var 5) do_none (do_some (d_var 7))) (d_sl (d_var 5) (do_some (d_add (d_var 7) d_int)) do_none)) da_nil))))))) dss_nil) (dss_cons (ds_if (dt_eq c (d_var 6) d_int) (dss_one (ds_ret 2 (d_tup (da_cons (d_var 2) (da_cons (d_var 3) (da_cons (d_var 4) (da_cons (d_add (d_add (d_sl (d_var 5) do_none (do_some (d_var 7))) (d_tup (da_cons (d_tup (da_cons (d_var 9) (da_cons (d_callD (ok__law_some S) c (by omega) (dr_cons (d_var 0) (dr_cons (d_lst (da_cons d_str (da_cons d_str da_nil))) dr_nil))) (da_cons (d_var 11) da_nil)))) da_nil))) (d_sl (d_var 5) (do_some (d_add (d_var 7) d_int)) do_none)) da_nil))))))) dss_nil) (dss_cons (ds_set 16 c (d_add (d_add (d_sl (d_var 11) do_none (do_some (d_var 8))) (d_tup (da_cons (d_callD (ok__law_states S) c (by omega) (dr_cons (d_var 0) (dr_cons (d_ix (d_ix (d_var 4) (d_var 8)) d_int) dr_nil))) da_nil))) (d_sl (d_var 11) (do_some (d_add (d_var 8) d_int)) do_none))) (dss_one (ds_ret 2 (d_tup (da_cons (d_var 2) (da_cons (d_var 3) (da_cons (d_var 4) (da_cons (d_add (d_add (d_sl (d_var 5) do_none (do_some (d_var 7))) (d_tup (da_cons (d_tup (da_cons (d_var 9) (da_cons (d_var 10) (da_cons (d_var 16) da_nil)))) da_nil))) (d_sl (d_var 5) (do_some (d_add (d_var 7) d_int)) do_none)) da_nil)))))))))))))))) (by decide)
theorem sc_is_strange : FnScope ["book", "reading"] ["book", "reading"] (defScope s_is_strange) := ⟨rfl, rfl, rfl, by decide +kernel, rfl, by decide +kernel, by decide +kernel⟩
theorem ok_is_strange (S : Fx K mg base) : DefOk P w K mg base 5 "is_strange" 2 F_is_strange := by
  obtain ⟨f, fd, FD, hm⟩ := S.fd_is_strange
  exact okMD (ps := ["book", "reading"]) FD sc_is_strange hm (fun _ _ _ _ _ _ us hl => match us, hl with | [_, _], _ => rfl) fun cdv A outer s H E c => dss_w (dss_one (ds_ret 2 (d_eq c (d_callD (ok_told S) c (by omega) (dr_cons (d_var 0) (dr_cons (d_var 1) dr_nil))) (d_tup da_nil)))) (by decide)
theorem sc_sure_kind : FnScope ["book", "reading", "lot"] ["book", "reading"] (defScope s_sure_kind) := ⟨rfl, rfl, rfl, by decide +kernel, rfl, by decide +kernel, by decide +kernel⟩
theorem ok_sure_kind (S : Fx K mg base) : DefOk P w K mg base 5 "sure_kind" 2 F_sure_kind := by
  obtain ⟨f, fd, FD, hm⟩ := S.fd_sure_kind
  exact okMD (ps := ["book", "reading"]) FD sc_sure_kind hm (fun _ _ _ _ _ _ us hl => match us, hl with | [_, _], _ => rfl) fun cdv A outer s H E c => dss_w (dss_cons (ds_set 2 c (d_callD (ok_told S) c (by omega) (dr_cons (d_var 0) (dr_cons (d_var 1) dr_nil)))) (dss_one (ds_ret 2 (d_if (dt_eq c (d_len (d_var 2) S.fr_len) d_int) (d_ix (d_var 2) d_int) d_non)))) (by decide)
theorem sc_sure_group : FnScope ["book", "reading", "groups"] ["book", "reading"] (defScope s_sure_group) := ⟨rfl, rfl, rfl, by decide +kernel, rfl, by decide +kernel, by decide +kernel⟩
theorem ok_sure_group (S : Fx K mg base) : DefOk P w K mg base 5 "sure_group" 2 F_sure_group := by
  obtain ⟨f, fd, FD, hm⟩ := S.fd_sure_group
  exact okMD (ps := ["book", "reading"]) FD sc_sure_group hm (fun _ _ _ _ _ _ us hl => match us, hl with | [_, _], _ => rfl) fun cdv A outer s H E c => dss_w (dss_cons (ds_set 2 c (d_callD (ok_groups_of S) c (by omega) (dr_cons (d_var 0) (dr_cons (d_callD (ok_told S) c (by omega) (dr_cons (d_var 0) (dr_cons (d_var 1) dr_nil))) dr_nil)))) (dss_one (ds_ret 2 (d_if (dt_eq c (d_len (d_var 2) S.fr_len) d_int) (d_ix (d_var 2) d_int) d_non)))) (by decide)
theorem sc__law_reading_right : FnScope ["bag", "book", "reading", "kinds", "lot", "groups", "found", "kind", "unread", "read", "at", "trait", "nexts", "state", "other", "due", "one", "its", "bent"] ["bag", "book", "reading"] (defScope s__law_reading_right) := ⟨rfl, rfl, rfl, by decide +kernel, rfl, by decide +kernel, by decide +kernel⟩
theorem ok__law_reading_right (S : Fx K mg base) : DefOk P w K mg base 7 "_law_reading_right" 3 F__law_reading_right := by
  obtain ⟨f, fd, FD, hm⟩ := S.fd__law_reading_right
  exact okMD (ps := ["bag", "book", "reading"]) FD sc__law_reading_right hm (fun _ _ _ _ _ _ us hl => match us, hl with | [_, _, _], _ => rfl) fun cdv A outer s H E c => dss_w (dss_cons (ds_set 3 c (d_listRg c (d_len (d_ix (d_var 1) d_int) S.fr_len) S.fr_list S.fr_range)) (dss_cons (ds_set 4 c (d_callD (ok__law_told S) c (by omega) (dr_cons (d_var 1) (dr_cons (d_var 2) dr_nil)))) (dss_cons (ds_set 5 c (d_callD (ok__law_groups S) c (by omega) (dr_cons (d_var 1) (dr_cons (d_var 4) dr_nil)))) (dss_cons (ds_set 6 c (d_lst (da_cons (d_lc (own := [("kind", 7)]) c (di_seq (d_var 3)) (blkOk_by (by rfl)) (fun _ _ _ _ _ => (dg_w (dg_name 7 (c.blk _ _ _ _ _)) (by decide))) (fun _ _ _ _ _ => dts_nil) (fun _ _ _ _ _ => (d_callD (ok_misses S) (c.blk _ _ _ _ _) (by omega) (dr_cons (d_var 1) (dr_cons (d_var 7) (dr_cons (d_var 2) dr_nil)))))) (da_cons (d_lc (own := [("kind", 7)]) c (di_seq (d_var 3)) (blkOk_by (by rfl)) (fun _ _ _ _ _ => (dg_w (dg_name 7 (c.blk _ _ _ _ _)) (by decide))) (fun _ _ _ _ _ => dts_nil) (fun _ _ _ _ _ => (d_callD (ok_fits S) (c.blk _ _ _ _ _) (by omega) (dr_cons (d_var 1) (dr_cons (d_var 7) (dr_cons (d_var 2) dr_nil)))))) (da_cons (d_callD (ok_told S) c (by omega) (dr_cons (d_var 1) (dr_cons (d_var 2) dr_nil))) (da_cons (d_callD (ok_is_strange S) c (by omega) (dr_cons (d_var 1) (dr_cons (d_var 2) dr_nil))) da_nil)))))) (dss_cons (ds_if (dt_not (dt_tru (d_callD (ok__law_alike S) c (by omega) (dr_cons (d_var 6) (dr_cons (d_lst (da_cons (d_lc (own := [("kind", 7)]) c (di_seq (d_var 3)) (blkOk_by (by rfl)) (fun _ _ _ _ _ => (dg_w (dg_name 7 (c.blk _ _ _ _ _)) (by decide))) (fun _ _ _ _ _ => dts_nil) (fun _ _ _ _ _ => (d_callD (ok__law_misses S) (c.blk _ _ _ _ _) (by omega) (dr_cons (d_var 1) (dr_cons (d_var 7) (dr_cons (d_var 2) dr_nil)))))) (da_cons (d_lc (own := [("kind", 7)]) c (di_seq (d_var 3)) (blkOk_by (by rfl)) (fun _ _ _ _ _ => (dg_w (dg_name 7 (c.blk _ _ _ _ _)) (by decide))) (fun _ _ _ _ _ => dts_nil) (fun _ _ _ _ _ => (d_callD (ok__law_can_be S) (c.blk _ _ _ _ _) (by omega) (dr_cons (d_var 1) (dr_cons (d_var 7) (dr_cons (d_var 2) dr_nil)))))) (da_cons (d_var 4) (da_cons (d_eq c (d_var 4) (d_tup da_nil)) da_nil))))) dr_nil))))) (dss_one (ds_ret 3 d_bl)) dss_nil) (dss_cons (ds_set 6 c (d_lst (da_cons (d_callD (ok_sure_kind S) c (by omega) (dr_cons (d_var 1) (dr_cons (d_var 2) dr_nil))) (da_cons (d_callD (ok_sure_group S) c (by omega) (dr_cons (d_var 1) (dr_cons (d_var 2) dr_nil))) (da_cons (d_callD (ok_groups_of S) c (by omega) (dr_cons (d_var 1) (dr_cons (d_var 4) dr_nil))) da_nil))))) (dss_cons (ds_if (dt_not (dt_tru (d_callD (ok__law_alike S) c (by omega) (dr_cons (d_var 6) (dr_cons (d_lst (da_cons (d_if (dt_eq c (d_len (d_var 4) S.fr_len) d_int) (d_ix (d_var 4) d_int) d_non) (da_cons (d_if (dt_eq c (d_len (d_var 5) S.fr_len) d_int) (d_ix (d_var 5) d_int) d_non) (da_cons (d_tuple (d_var 5) S.fr_tuple) da_nil)))) dr_nil))))) (dss_one (ds_ret 3 d_bl)) dss_nil) (dss_cons (ds_set 8 c (d_callD (ok__law_unread S) c (by omega) (dr_cons (d_var 2) dr_nil))) (dss_cons (ds_setLc 9 (own := [("at", 10)]) c (di_range1 (d_len (d_var 2) S.fr_len) S.fr_range) (blkOk_by (by rfl)) (fun _ _ _ _ _ => (dg_w (dg_name 10 (c.blk _ _ _ _ _)) (by decide))) (fun _ _ _ _ _ => (dts_one (dt_nin (d_var 10) (d_var 8)))) (fun _ _ _ _ _ => (d_var 10)) (by rfl) (sw_true rfl rfl rfl (by decide +kernel))) (dss_cons (ds_if (dt_not (dt_tru (d_callD (ok__law_alike S) c (by omega) (dr_cons (d_lst (da_cons (d_callD (ok_is_whole S) c (by omega) (dr_cons (d_var 2) dr_nil)) (da_cons (d_callD (ok_read_traits S) c (by omega) (dr_cons (d_var 2) dr_nil)) (da_cons (d_callD (ok_unread_traits S) c (by omega) (dr_cons (d_var 2) dr_nil)) (da_cons (d_callD (ok_is_reading S) c (by omega) (dr_cons (d_var 1) (dr_cons (d_var 2) dr_nil))) da_nil))))) (dr_cons (d_lst (da_cons (d_eq c (d_var 8) (d_lst da_nil)) (da_cons (d_tuple (d_var 9) S.fr_tuple) (da_cons (d_tuple (d_var 8) S.fr_tuple) (da_cons d_bl da_nil))))) dr_nil))))) (dss_one (ds_ret 3 d_bl)) dss_nil) (dss_cons (ds_set 11 c (d_callD (ok__law_take S) c (by omega) (dr_cons (d_var 0) (dr_cons (d_len (d_var 2) S.fr_len) dr_nil)))) (dss_cons (ds_setLc 12 (own := [("state", 13)]) c (di_range1 (d_add (d_ix (d_ix (d_ix (d_var 1) d_int) (d_var 11)) d_int) d_int) S.fr_range) (blkOk_by (by rfl)) (fun _ _ _ _ _ => (dg_w (dg_name 13 (c.blk _ _ _ _ _)) (by decide))) (fun _ _ _ _ _ => dts_nil) (fun _ _ _ _ _ => (d_callD (ok__law_with S) (c.blk _ _ _ _ _) (by omega) (dr_cons (d_var 2) (dr_cons (d_var 11) (dr_cons (d_var 13) dr_nil))))) (by rfl) (sw_true rfl rfl rfl (by decide +kernel))) (dss_cons (ds_if (dt_not (dt_tru (d_callD (ok__law_alike S) c (by omega) (dr_cons (d_lst (da_cons (d_callD (ok_next_readings S) c (by omega) (dr_cons (d_var 1) (dr_cons (d_var 2) (dr_cons (d_var 11) dr_nil)))) (da_cons (d_callD (ok_with_read S) c (by omega) (dr_cons (d_var 2) (dr_cons (d_var 11) (dr_cons (d_neg d_int) dr_nil)))) da_nil))) (dr_cons (d_lst (da_cons (d_var 12) (da_cons (d_callD (ok__law_with S) c (by omega) (dr_cons (d_var 2) (dr_cons (d_var 11) (dr_cons (d_neg d_int) dr_nil)))) da_nil))) dr_nil))))) (dss_one (ds_ret 3 d_bl)) dss_nil) (dss_cons (ds_set 14 c (d_callD (ok__law_some S) c (by omega) (dr_cons (d_var 0) (dr_cons (d_add (d_lst (da_cons (d_callD (ok__law_reading S) c (by omega) (dr_cons (d_var 0) (dr_cons (d_var 1) dr_nil))) da_nil)) (d_var 12)) dr_nil)))) (dss_cons (ds_set 15 c (d_eq c (d_lc (own := [("one", 16), ("its", 17)]) c (di_zip (d_var 2) (d_var 14) S.fr_zip) (blkOk_by (by rfl)) (fun _ _ _ _ _ => (dg_w (dg_tup (c.blk _ _ _ _ _) (dgs_cons (dg_name 16 (c.blk _ _ _ _ _)) (dgs_cons (dg_name 17 (c.blk _ _ _ _ _)) dgs_nil))) (by decide))) (fun _ _ _ _ _ => (dts_one (PW.pt (dw_and (dt_ge (d_var 16) d_int) (dw_and1 (dt_ne (c.blk _ _ _ _ _) (d_var 16) (d_var 17))))))) (fun _ _ _ _ _ => d_int)) (d_lst da_nil))) (dss_cons (ds_if (PW.pt (dw_or (dt_not (dt_tru (d_callD (ok__law_alike S) c (by omega) (dr_cons (d_callD (ok_goes_on S) c (by omega) (dr_cons (d_var 2) (dr_cons (d_var 14) dr_nil))) (dr_cons (d_var 15) dr_nil))))) (dw_or1 (PW.pt (dw_and (dt_tru (d_var 15)) (dw_and1 (dt_ne c (d_lc (own := [("kind", 7)]) c (di_seq (d_callD (ok_told S) c (by omega) (dr_cons (d_var 1) (dr_cons (d_var 14) dr_nil)))) (blkOk_by (by rfl)) (fun _ _ _ _ _ => (dg_w (dg_name 7 (c.blk _ _ _ _ _)) (by decide))) (fun _ _ _ _ _ => (dts_one (dt_nin (d_var 7) (d_var 4)))) (fun _ _ _ _ _ => (d_var 7))) (d_lst da_nil)))))))) (dss_one (ds_ret 3 d_bl)) dss_nil) (dss_cons (ds_set 18 c (d_callD (ok__law_bent S 2) c (by omega) (dr_cons (d_var 0) (dr_cons (d_var 2) (dr_cons d_int dr_nil))))) (dss_one (ds_ret 3 (d_callD (ok__law_alike S) c (by omega) (dr_cons (d_callD (ok_is_reading S) c (by omega) (dr_cons (d_var 1) (dr_cons (d_var 18) dr_nil))) (dr_cons (d_callD (ok__law_is_reading S) c (by omega) (dr_cons (d_var 1) (dr_cons (d_var 18) dr_nil))) dr_nil)))))))))))))))))))))) (by decide)
theorem sc_law : FnScope ["script", "bag", "turn", "book", "every", "reading", "lot", "thing", "kind", "trait", "again"] ["script"] (defScope s_law) := ⟨rfl, rfl, rfl, by decide +kernel, rfl, by decide +kernel, by decide +kernel⟩
theorem okF_law (S : Fx K mg base) {f : Addr} {fd : FuncData} (FD : L2.FunD K "law" "law" (defArgs s_law) (defBody s_law) (defScope s_law) [] [] f fd) : FnOk P w K mg base CX0 8 f fd ["script"] (spF K 1 F_law) :=
  okMF (ps := ["script"]) FD sc_law fun cdv A outer s H E c => dss_w (dss_cons (ds_set 1 c (d_callD (ok__law_bag S) c (by omega) (dr_cons (d_var 0) dr_nil))) (dss_cons (ds_for PassesOwn.never c.calm (di_range1 d_int S.fr_range) (dg_name 2 c) (dss_cons (ds_set 3 c (d_callD (ok__law_turned S) c (by omega) (dr_cons (d_var 1) (dr_cons (d_callD (ok__law_book S) c (by omega) (dr_cons (d_var 1) dr_nil)) dr_nil)))) (dss_cons (ds_set 4 c (d_callD (ok__law_wholes S) c (by omega) (dr_cons (d_var 3) dr_nil))) (dss_cons (ds_if (dt_not (dt_tru (d_callD (ok__law_alike S) c (by omega) (dr_cons (d_lst (da_cons (d_callD (ok_all_readings S) c (by omega) (dr_cons (d_var 3) dr_nil)) (da_cons (d_callD (ok_nothing_read S) c (by omega) (dr_cons (d_var 3) dr_nil)) da_nil))) (dr_cons (d_lst (da_cons (d_var 4) (da_cons (d_callD (ok__law_nothing S) c (by omega) (dr_cons (d_var 3) dr_nil)) da_nil))) dr_nil))))) (dss_one (ds_ret 1 d_bl)) dss_nil) (dss_cons (ds_for PassesOwn.never c.calm (di_seq (d_add (d_lst (da_cons (d_callD (ok__law_nothing S) c (by omega) (dr_cons (d_var 3) dr_nil)) (da_cons (d_callD (ok__law_some S) c (by omega) (dr_cons (d_var 1) (dr_cons (d_var 4) dr_nil))) da_nil))) (d_lc (own := [("again", 10)]) c (di_range1 d_int S.fr_range) (blkOk_by (by rfl)) (fun _ _ _ _ _ => (dg_w (dg_name 10 (c.blk _ _ _ _ _)) (by decide))) (fun _ _ _ _ _ => dts_nil) (fun _ _ _ _ _ => (d_callD (ok__law_reading S) (c.blk _ _ _ _ _) (by omega) (dr_cons (d_var 1) (dr_cons (d_var 3) dr_nil))))))) (dg_name 5 c) (dss_one (ds_if (dt_not (dt_tru (d_callD (ok__law_reading_right S) c (by omega) (dr_cons (d_var 1) (dr_cons (d_var 3) (dr_cons (d_var 5) dr_nil)))))) (dss_one (ds_ret 1 d_bl)) dss_nil))) (dss_cons (ds_set 6 c (d_callD (ok__law_some S) c (by omega) (dr_cons (d_var 1) (dr_cons (d_callD (ok__law_lots S) c (by omega) (dr_cons (d_len (d_ix (d_var 3) d_int) S.fr_len) dr_nil)) dr_nil)))) (dss_cons (ds_par 8 9 c (dr_cons (d_callD (ok__law_take S) c (by omega) (dr_cons (d_var 1) (dr_cons (d_len (d_ix (d_var 3) d_int) S.fr_len) dr_nil))) (dr_cons (d_callD (ok__law_take S) c (by omega) (dr_cons (d_var 1) (dr_cons (d_len (d_ix (d_var 3) d_int) S.fr_len) dr_nil))) dr_nil))) (dss_cons (ds_if (dt_not (dt_tru (d_callD (ok__law_alike S) c (by omega) (dr_cons (d_lst (da_cons (d_callD (ok_price_of S) c (by omega) (dr_cons (d_var 3) (dr_cons (d_var 6) dr_nil))) (da_cons (d_callD (ok_shows_of S) c (by omega) (dr_cons (d_var 3) (dr_cons (d_var 8) (dr_cons (d_var 9) dr_nil)))) da_nil))) (dr_cons (d_lst (da_cons (d_callD (ok__law_price S) c (by omega) (dr_cons (d_var 3) (dr_cons (d_var 6) dr_nil))) (da_cons (d_ix (d_ix (d_ix (d_ix (d_var 3) d_int) (d_var 8)) d_int) (d_var 9)) da_nil))) dr_nil))))) (dss_one (ds_ret 1 d_bl)) dss_nil) (dss_one (ds_for PassesOwn.never c.calm (di_seq (d_tup (da_cons (d_callD (ok__law_odd S) c (by omega) (dr_cons (d_var 1) dr_nil)) (da_cons (d_list (d_ix (d_var 4) d_int) S.fr_list) (da_cons (d_add (d_ix (d_var 4) d_int) (d_tup (da_cons d_int da_nil))) (da_cons (d_sl (d_ix (d_var 4) d_int) (do_some d_int) do_none) (da_cons (d_tuple (d_lc (own := [("trait", 9)]) c (di_seq (d_ix (d_var 3) d_int)) (blkOk_by (by rfl)) (fun _ _ _ _ _ => (dg_w (dg_name 9 (c.blk _ _ _ _ _)) (by decide))) (fun _ _ _ _ _ => dts_nil) (fun _ _ _ _ _ => d_int)) S.fr_tuple) da_nil))))))) (dg_name 7 c) (dss_one (ds_if (dt_not (dt_tru (d_callD (ok__law_alike S) c (by omega) (dr_cons (d_callD (ok_is_reading S) c (by omega) (dr_cons (d_var 3) (dr_cons (d_var 7) dr_nil))) (dr_cons (d_callD (ok__law_is_reading S) c (by omega) (dr_cons (d_var 3) (dr_cons (d_var 7) dr_nil))) dr_nil))))) (dss_one (ds_ret 1 d_bl)) dss_nil)))))))))))) (dss_one (ds_ret 1 d_bl)))) (by decide)
end
end K22

set_option Elab.async false
set_option linter.all false
set_option maxRecDepth 100000
set_option maxHeartbeats 4000000
namespace DL
open PySem
/-! what the readings compute, as rewriting -/
section
variable {Γ : Env}
@[simp] theorem ev_C (d : Dat) : mC d Γ = some (.d d, Γ) := rfl
@[simp] theorem ev_Bin (g) (a b : M) : mBin g a b Γ = (a Γ).bind fun p => (b p.2).bind fun q => g p.1 q.1 q.2 := rfl
@[simp] theorem ev_Un (g) (a : M) : mUn g a Γ = (a Γ).bind fun p => g p.1 p.2 := rfl
@[simp] theorem ev_viewd (d : Dat) : viewD Γ (.d d) = some d := rfl
@[simp] theorem ev_viewo (o : Own) : viewD Γ (.own o) = some o.dat := rfl
@[simp] theorem ev_datl (l : List Dat) : (Own.lst l).dat = .list l := rfl
@[simp] theorem ev_datd (l : List (Dat × Dat)) : (Own.dct l).dat = .dict l := rfl
@[simp] theorem ev_setd (d : Dat) : settle Γ (.d d) = some (d, Γ) := rfl
@[simp] theorem ev_seto (o : Own) : settle Γ (.own o) = some (o.dat, Γ) := rfl
@[simp] theorem ev_seql (l : List Dat) : seqOf (.list l) = some (true, l) := rfl
@[simp] theorem ev_seqt (l : List Dat) : seqOf (.tuple l) = some (false, l) := rfl
@[simp] theorem ev_Tup (md : MD) : mTup md Γ = (md Γ).bind fun p => if p.1.length ≤ lim then some (.d (.tuple p.1), p.2) else none := rfl
@[simp] theorem ev_Lst (md : MD) : mLst md Γ = (md Γ).bind fun p => if p.1.length ≤ lim then some (.own (.lst p.1), p.2) else none := rfl
@[simp] theorem ev_D0 : mD0 Γ = some ([], Γ) := rfl
@[simp] theorem ev_Dc (m : M) (r : MD) : mDc m r Γ = (m Γ).bind fun p => (settle p.2 p.1).bind fun q => (r q.2).bind fun t => some (q.1 :: t.1, t.2) := rfl
@[simp] theorem ev_Ds (m : M) (r : MD) : mDs m r Γ = (m Γ).bind fun p => (settle p.2 p.1).bind fun q => (seqOf q.1).bind fun l => if l.2.length ≤ lim then (r q.2).bind fun t => some (l.2 ++ t.1, t.2) else none := rfl
@[simp] theorem ev_mB (m : M) : mB m Γ = (m Γ).bind fun p => match p.1 with | .d (.bool b) => some (b, p.2) | _ => none := rfl
@[simp] theorem ev_AndT (a b : MT) : mAndT a b Γ = (a Γ).bind fun p => if p.1 then b p.2 else some (false, p.2) := rfl
@[simp] theorem ev_OrT (a b : MT) : mOrT a b Γ = (a Γ).bind fun p => if p.1 then some (true, p.2) else b p.2 := rfl
@[simp] theorem ev_NotT (a : MT) : mNotT a Γ = (a Γ).bind fun p => some (!p.1, p.2) := rfl
@[simp] theorem ev_AndV (a b : M) : mAndV a b Γ = (mB a Γ).bind fun p => if p.1 then b p.2 else some (.d (.bool false), p.2) := rfl
@[simp] theorem ev_OrV (a b : M) : mOrV a b Γ = (mB a Γ).bind fun p => if p.1 then some (.d (.bool true), p.2) else b p.2 := rfl
@[simp] theorem ev_NotV (a : M) : mNotV a Γ = (mB a Γ).bind fun p => some (.d (.bool (!p.1)), p.2) := rfl
@[simp] theorem ev_If (t : MT) (a b : M) : mIf t a b Γ = (t Γ).bind fun p => if p.1 then a p.2 else b p.2 := rfl
@[simp] theorem ev_Tru (a : M) : mTru a Γ = (a Γ).bind fun p => (viewD p.2 p.1).bind fun d => (truD d).bind fun b => some (b, p.2) := rfl
@[simp] theorem ev_Yes : mYes Γ = some (true, Γ) := rfl
@[simp] theorem ev_Seq (a b : MS) : mSeq a b Γ = (a Γ).bind fun p => match p.1 with | .nx => b p.2 | f => some (f, p.2) := rfl
@[simp] theorem ev_Next : mNext Γ = some (.nx, Γ) := rfl
@[simp] theorem ev_Drop (m : M) : mDrop m Γ = (m Γ).bind fun p => some (.nx, p.2) := rfl
@[simp] theorem ev_Set (g : MG) (m : M) : mSet g m Γ = (m Γ).bind fun p => (g p.1 p.2).bind fun Γ' => some (.nx, Γ') := rfl
@[simp] theorem ev_IfS (t : MT) (a b : MS) : mIfS t a b Γ = (t Γ).bind fun p => if p.1 then a p.2 else b p.2 := rfl
@[simp] theorem ev_Ret (n : Nat) (m : M) : mRet n m Γ = (m Γ).bind fun p => (outS n p.1 p.2).bind fun q => some (.ret q.1, q.2) := rfl
@[simp] theorem ev_outd (n : Nat) (d : Dat) : outS n (.d d) Γ = some (.d d, Γ) := rfl
@[simp] theorem ev_outo (n : Nat) (o : Own) : outS n (.own o) Γ = some (.own o, Γ) := rfl
@[simp] theorem ev_A0 : mA0 Γ = some ([], Γ) := rfl
@[simp] theorem ev_Ac (m : M) (r : MA) : mAc m r Γ = (m Γ).bind fun p => (r p.2).bind fun q => some (p.1 :: q.1, q.2) := rfl
@[simp] theorem ev_argd (d : Dat) : argS Γ (.d d) = some (.d d) := rfl
@[simp] theorem ev_argo (o : Own) : argS Γ (.own o) = some (.own o) := rfl
@[simp] theorem ev_args0 : argsS Γ [] = some [] := rfl
@[simp] theorem ev_argsc (s : Slot) (r : List Slot) : argsS Γ (s :: r) = (argS Γ s).bind fun t => (argsS Γ r).bind fun q => some (t :: q) := rfl
@[simp] theorem ev_bix0 : borIx [] = [] := rfl
@[simp] theorem ev_bixd (d : Dat) (r) : borIx (.d d :: r) = borIx r := rfl
@[simp] theorem ev_bixo (o : Own) (r) : borIx (.own o :: r) = borIx r := rfl
@[simp] theorem ev_bixb (i : Nat) (r) : borIx (.bor i :: r) = i :: borIx r := rfl
@[simp] theorem ev_back0 (t) : backS Γ [] t = Γ := by cases t <;> rfl
@[simp] theorem ev_backd (d : Dat) (r t q) : backS Γ (.d d :: r) (t :: q) = backS Γ r q := rfl
@[simp] theorem ev_backo (o : Own) (r t q) : backS Γ (.own o :: r) (t :: q) = backS Γ r q := rfl
@[simp] theorem ev_backb (i : Nat) (r t q) : backS Γ (.bor i :: r) (t :: q) = backS (Γ.set i t) r q := rfl
@[simp] theorem ev_keepd (d : Dat) : keepable (.d d) = true := rfl
@[simp] theorem ev_keepo (o : Own) : keepable (.own o) = true := rfl
theorem ev_Call (n : Nat) (F : FS) (ma : MA) : mCall n F ma Γ = (ma Γ).bind fun p => (argsS p.2 p.1).bind fun args => if p.1.length = n ∧ (borIx p.1).Nodup then (F args).bind fun q => if keepable q.1 = true ∧ q.2.length = args.length then some (q.1, backS p.2 p.1 q.2) else none else none := rfl
@[simp] theorem ev_O0 : mO0 Γ = some (none, Γ) := rfl
@[simp] theorem ev_O1 (m : M) : mO1 m Γ = (m Γ).bind fun p => match p.1 with | .d (.int i) => some (some i, p.2) | _ => none := rfl
@[simp] theorem ev_Sl (a : M) (l h : MO) : mSl a l h Γ = (a Γ).bind fun p => (l p.2).bind fun q => (h q.2).bind fun t => (viewD t.2 p.1).bind fun d => match d with
  | .list l => if l.length ≤ lim then some (.own (.lst (cutL l q.1 t.1)), t.2) else none
  | .tuple l => some (.d (.tuple (cutL l q.1 t.1)), t.2)
  | _ => none := rfl
@[simp] theorem ev_Isi (t : Ty) (m : M) : mIsi t m Γ = (m Γ).bind fun p => (viewD p.2 p.1).bind fun d => some (.d (.bool (isTy t d)), p.2) := rfl
@[simp] theorem ev_Isi2 (t u : Ty) (m : M) : mIsi2 t u m Γ = (m Γ).bind fun p => (viewD p.2 p.1).bind fun d => some (.d (.bool (isTy t d || isTy u d)), p.2) := rfl
@[simp] theorem ev_Val (t : MT) : mVal t Γ = (t Γ).bind fun p => some (.d (.bool p.1), p.2) := rfl
@[simp] theorem ev_Dict0 : mDict0 Γ = some (.own (.dct []), Γ) := rfl
/-- names -/
theorem ev_vd {i : Nat} {d : Dat} (h : Γ[i]? = some (.d d)) : mVar i Γ = some (.d d, Γ) := by unfold mVar; rw [h]
theorem ev_vo {i : Nat} {o : Own} (h : Γ[i]? = some (.own o)) : mVar i Γ = some (.bor i, Γ) := by unfold mVar; rw [h]
@[simp] theorem ev_var (i : Nat) : mVar i Γ = match Γ[i]? with | some (.d x) => some (.d x, Γ) | some (.own _) => some (.bor i, Γ) | some (.fn a) => some (.fn a, Γ) | _ => none := rfl
@[simp] theorem ev_viewb (i : Nat) : viewD Γ (.bor i) = match Γ[i]? with | some (.own o) => some o.dat | some (.d x) => some x | _ => none := rfl
@[simp] theorem ev_setb (i : Nat) : settle Γ (.bor i) = match Γ[i]? with | some (.own o) => some (o.dat, Γ.set i (.d o.dat)) | some (.d x) => some (x, Γ) | _ => none := rfl
@[simp] theorem ev_argb (i : Nat) : argS Γ (.bor i) = match Γ[i]? with | some (.own o) => some (.own o) | some (.d x) => some (.d x) | _ => none := rfl
@[simp] theorem ev_outb (n i : Nat) : outS n (.bor i) Γ = match Γ[i]? with | some (.own o) => if n ≤ i then some (.own o, Γ.set i .no) else some (.d o.dat, Γ.set i (.d o.dat)) | some (.d x) => some (.d x, Γ) | _ => none := rfl
@[simp] theorem ev_setS (i : Nat) (s : Slot) : setS i s Γ = if i < Γ.length then (match s with | .d x => some (Γ.set i (.d x)) | .own o => some (Γ.set i (.own o)) | .fn a => some (Γ.set i (.fn a)) | .bor j => (settle Γ (.bor j)).bind fun q => some (q.2.set i (.d q.1)) | .no => none) else none := rfl
@[simp] theorem ev_setN : setN [] Γ = some Γ := rfl
@[simp] theorem ev_setC (g : MG) (gs : MGs) (d : Dat) (r : List Dat) : setC g gs (d :: r) Γ = (g (.d d) Γ).bind fun Γ1 => gs r Γ1 := rfl
@[simp] theorem ev_setT (n : Nat) (gs : MGs) (l : List Dat) : setT n gs (.d (.tuple l)) Γ = if l.length = n then gs l Γ else none := rfl
/-- operations -/
@[simp] theorem ev_gSc (g : Dat → Dat → Option Dat) (s1 s2 : Slot) : gSc g s1 s2 Γ = (viewD Γ s1).bind fun d => (viewD Γ s2).bind fun e => (g d e).bind fun z => some (.d z, Γ) := rfl
@[simp] theorem ev_gSc1 (g : Dat → Option Dat) (s : Slot) : gSc1 g s Γ = (viewD Γ s).bind fun d => (g d).bind fun z => some (.d z, Γ) := rfl
@[simp] theorem ev_iD (g : Int → Int → Dat) (i j : Int) : iD g (.int i) (.int j) = some (g i j) := rfl
@[simp] theorem ev_iDC (C : Int → Int → Bool) (g : Int → Int → Dat) (i j : Int) : iDC C g (.int i) (.int j) = if C i j then some (g i j) else none := rfl
@[simp] theorem ev_lenl (l : List Dat) : lenD (.list l) = some (.int l.length) := rfl
@[simp] theorem ev_lent (l : List Dat) : lenD (.tuple l) = some (.int l.length) := rfl
@[simp] theorem ev_intD (i : Int) : intD (.int i) = some (.int i) := rfl
@[simp] theorem ev_absD (i : Int) : absD (.int i) = some (.int (if i < 0 then -i else i)) := rfl
@[simp] theorem ev_negD (i : Int) : negD (.int i) = some (.int (-i)) := rfl
theorem ev_ix {l : List Dat} {i : Int} {d z : Dat} {b : Bool} {s1 s2 : Slot} (h1 : viewD Γ s1 = some d) (h2 : seqOf d = some (b, l)) (h3 : viewD Γ s2 = some (.int i)) (h : L2.atI l i = some z) : gIx s1 s2 Γ = some (.d z, Γ) := by
  unfold gIx
  simp [h1, h2, h3, h]
@[simp] theorem ev_gTuple (s : Slot) : gTuple s Γ = (viewD Γ s).bind fun d => match d with | .list l => some (.d (.tuple l), Γ) | .tuple l => some (.d (.tuple l), Γ) | _ => none := rfl
@[simp] theorem ev_gList (s : Slot) : gList s Γ = (viewD Γ s).bind fun d => (seqOf d).bind fun p => some (.own (.lst p.2), Γ) := rfl
@[simp] theorem ev_SetIx (i : Nat) (mi mv : M) : mSetIx i mi mv Γ = (mv Γ).bind fun p => (settle p.2 p.1).bind fun q => match q.2[i]? with
  | some (.own _) => (mi q.2).bind fun t => match t.1, t.2[i]? with
    | .d (.int n), some (.own (.lst l)) => (L2.ixN l.length n).bind fun j => some (.nx, t.2.set i (.own (.lst (l.set j q.1))))
    | _, _ => none
  | _ => none := rfl
@[simp] theorem ev_AugIx (i : Nat) (g : Int → Int → Int) (mi me : M) : mAugIx i g mi me Γ = match Γ[i]? with
  | some (.own _) => (mi Γ).bind fun t => match t.1, t.2[i]? with
    | .d (.int n), some (.own (.lst l)) => (L2.atI l n).bind fun z => (me t.2).bind fun u => match z, u.1, u.2[i]? with
      | .int z, .d (.int y), some (.own (.lst l2)) => (L2.ixN l2.length n).bind fun j => some (.nx, u.2.set i (.own (.lst (l2.set j (.int (g z y))))))
      | _, _, _ => none
    | _, _ => none
  | _ => none := rfl
@[simp] theorem ev_App (i : Nat) (me : M) : mApp i me Γ = match Γ[i]? with
  | some (.own (.lst _)) => (me Γ).bind fun p => (settle p.2 p.1).bind fun q => match q.2[i]? with
    | some (.own (.lst l)) => if l.length < lim then some (.d .none, q.2.set i (.own (.lst (l ++ [q.1])))) else none
    | _ => none
  | _ => none := rfl
@[simp] theorem ev_Ext (i : Nat) (me : M) : mExt i me Γ = match Γ[i]? with
  | some (.own (.lst _)) => (me Γ).bind fun p => match p.1, p.2[i]? with
    | .own (.lst l2), some (.own (.lst l)) => if l.length + l2.length ≤ lim then some (.d .none, p.2.set i (.own (.lst (l ++ l2)))) else none
    | _, _ => none
  | _ => none := rfl
@[simp] theorem ev_Chain (g g2 : Slot → Slot → MT) (a b c : M) : mChain g g2 a b c Γ = (a Γ).bind fun p => (b p.2).bind fun q => (g p.1 q.1 q.2).bind fun t => if t.1 then (c t.2).bind fun u => g2 q.1 u.1 u.2 else some (false, t.2) := rfl
@[simp] theorem ev_cmpI (f : Int → Int → Bool) (i j : Int) : cmpI f (.d (.int i)) (.d (.int j)) Γ = some (f i j, Γ) := rfl
@[simp] theorem ixN4_0 : L2.ixN 4 0 = some 0 := rfl
@[simp] theorem ixN4_1 : L2.ixN 4 1 = some 1 := rfl
@[simp] theorem ixN4_2 : L2.ixN 4 2 = some 2 := rfl
@[simp] theorem lim_eq : lim = 1000000 := rfl
@[simp] theorem ev_eqii (i j : Int) : eqD (.int i) (.int j) = some (.bool (decide (i = j))) := by
  have h : (SeqAt.shaped (.int i) && SeqAt.shaped (.int j)) = true := by simp [SeqAt.shaped, PyData.canLay0, PyData.depth]
  have e : PyData.eqv (.int i) (.int j) = decide (i = j) := by
    rw [PyData.eqv]
    by_cases q : i = j <;> simp [q]
  unfold eqD
  rw [if_pos h, e]
@[simp] theorem ev_neii (i j : Int) : neD (.int i) (.int j) = some (.bool (!decide (i = j))) := by
  have h := ev_eqii i j
  unfold eqD at h
  unfold neD
  split at h
  · rename_i q
    rw [if_pos q]
    simp only [Option.some.injEq, PyData.bool.injEq] at h
    rw [h]
  · cases h
@[simp] theorem ev_gIx (s1 s2 : Slot) : gIx s1 s2 Γ = (viewD Γ s1).bind fun d => (seqOf d).bind fun p => (viewD Γ s2).bind fun e => match e with
  | .int i => (L2.atI p.2 i).bind fun z => some (.d z, Γ)
  | _ => none := rfl
@[simp] theorem ev_gAdd (s1 s2 : Slot) : gAdd s1 s2 Γ = (viewD Γ s1).bind fun d => (viewD Γ s2).bind fun e => match d, e with
  | .int i, .int j => some (.d (.int (i + j)), Γ)
  | .str x, .str y => if x.length + y.length ≤ lim then some (.d (.str (x ++ y)), Γ) else none
  | .list l, .list l2 => if l.length + l2.length ≤ lim then some (.own (.lst (l ++ l2)), Γ) else none
  | .tuple l, .tuple l2 => if l.length + l2.length ≤ lim then some (.d (.tuple (l ++ l2)), Γ) else none
  | _, _ => none := rfl
@[simp] theorem ev_gMul (s1 s2 : Slot) : gMul s1 s2 Γ = (viewD Γ s1).bind fun d => (viewD Γ s2).bind fun e => match d, e with
  | .int i, .int j => if mulC i j then some (.d (.int (i * j)), Γ) else none
  | .tuple l, .int j => if l ≠ [] ∧ 2 ≤ j ∧ j ≤ 1000 ∧ l.length ≤ 1000 then some (.d (.tuple (List.replicate j.toNat l).flatten), Γ) else none
  | _, _ => none := rfl
/-- def's frames -/
theorem ev_run {n N : Nat} {W : List Nat} {m : MS} {args : List Slot} {r : Slot} {Γ' : Env} (h1 : args.length = n) (h2 : okAsg W 0 args = true) (h3 : m (args ++ List.replicate (N - n) .no) = some (.ret r, Γ')) (h4 : keepable r = true) :
    runF n N W m args = some (r, pickF W 0 args Γ') := by
  unfold runF
  rw [if_pos ⟨h1, h2⟩, h3]
  simp [h4]
theorem ev_runx {n N : Nat} {W : List Nat} {m : MS} {args out : List Slot} {r : Slot} (Γ' : Env) (h3 : m (args ++ List.replicate (N - n) .no) = some (.ret r, Γ')) (h4 : keepable r = true := by rfl) (h1 : args.length = n := by rfl) (h2 : okAsg W 0 args = true := by rfl) (h5 : pickF W 0 args Γ' = out := by rfl) :
    runF n N W m args = some (r, out) := h5 ▸ ev_run h1 h2 h3 h4
@[simp] theorem ev_pick0 (W : List Nat) (i : Nat) : pickF W i [] Γ = [] := rfl
@[simp] theorem ev_pickc (W : List Nat) (i : Nat) (a : Slot) (r : List Slot) : pickF W i (a :: r) Γ = (if i ∈ W then a else Γ.getD i .no) :: pickF W (i + 1) r Γ := rfl
@[simp] theorem ev_asg0 (W : List Nat) (i : Nat) : okAsg W i [] = true := rfl
@[simp] theorem ev_asgc (W : List Nat) (i : Nat) (a : Slot) (r : List Slot) : okAsg W i (a :: r) = ((!decide (i ∈ W) || noOwn a) && okAsg W (i + 1) r) := rfl
theorem atI_nat {l : List Dat} {i : Nat} {z : Dat} (h : l[i]? = some z) : L2.atI l (i : Int) = some z := by
  have hl := (List.getElem?_eq_some_iff.mp h).1
  unfold L2.atI L2.ixN
  rw [if_pos (by omega), if_pos (by omega)]
  simpa using h
end
section
variable {a b c d e : Dat} {l : List Dat}
@[simp] theorem at0 : L2.atI (a :: l) 0 = some a := atI_nat (i := 0) rfl
@[simp] theorem at1 : L2.atI (a :: b :: l) 1 = some b := atI_nat (i := 1) rfl
@[simp] theorem at2 : L2.atI (a :: b :: c :: l) 2 = some c := atI_nat (i := 2) rfl
@[simp] theorem at3 : L2.atI (a :: b :: c :: d :: l) 3 = some d := atI_nat (i := 3) rfl
end
/-! ### comprehensions -/
def lcStep (g : MG) (mt : MT) (me : M) (vs : List Nat) (x : Dat) (Γ : Env) : Option (Option Dat × Env) := (g (.d x) Γ).bind fun Γ1 => (mt Γ1).bind fun p => if p.1 then
      (me p.2).bind fun q => (settle q.2 q.1).bind fun s => some (some s.1, wipeE s.2 vs)
    else some (none, wipeE p.2 vs)
theorem lcL_cons {g : MG} {mt : MT} {me : M} {vs : List Nat} {x : Dat} {xs acc : List Dat} {Γ : Env} : lcL g mt me vs (x :: xs) acc Γ = (lcStep g mt me vs x Γ).bind fun r => match r.1 with
    | some d => if acc.length < lim then lcL g mt me vs xs (acc ++ [d]) r.2 else none
    | none => lcL g mt me vs xs acc r.2 := by
  unfold lcStep
  rw [lcL]
  cases g (.d x) Γ with
  | none => rfl
  | some Γ1 =>
    simp only [Option.bind_some]
    cases mt Γ1 with
    | none => rfl
    | some p =>
      simp only [Option.bind_some]
      cases p.1 with
      | false => simp
      | true =>
        simp only [if_true]
        cases me p.2 with
        | none => rfl
        | some q =>
          simp only [Option.bind_some]
          cases settle q.2 q.1 with
          | none => rfl
          | some s => rfl
/-- each turn leaves the frame as it was -/
theorem lcL_pure {α : Type} {g : MG} {mt : MT} {me : M} {vs : List Nat} {Γ : Env} (enc : α → Dat) (f : α → Option Dat) : ∀ {ts : List α} {acc : List Dat}, (∀ t ∈ ts, lcStep g mt me vs (enc t) Γ = some (f t, Γ)) → acc.length + ts.length ≤ lim →
    lcL g mt me vs (ts.map enc) acc Γ = some (acc ++ ts.filterMap f, Γ)
  | [], acc, _, _ => by simp [lcL]
  | t :: ts, acc, h, hl => by
    rw [List.map_cons, lcL_cons, h t (by simp)]
    simp only [List.length_cons] at hl
    simp only [Option.bind_some]
    cases hf : f t with
    | none =>
      simp only
      rw [lcL_pure enc f (fun t ht => h t (List.mem_cons_of_mem _ ht)) (by omega), List.filterMap_cons_none hf]
    | some d =>
      simp only
      rw [if_pos (by omega), lcL_pure enc f (fun t ht => h t (List.mem_cons_of_mem _ ht)) (by rw [List.length_append, List.length_singleton]; omega), List.filterMap_cons_some hf]
      simp
theorem putE_wipe {Γ : Env} {vs : List Nat} : putE (wipeE Γ vs) Γ vs = Γ := by
  letI : TabsC := ⟨[]⟩
  have hlen : (putE (wipeE Γ vs) Γ vs).length = Γ.length := by rw [putE_len, wipeE_len]
  refine List.ext_getElem hlen fun i h1 h2 => ?_
  have e : (putE (wipeE Γ vs) Γ vs)[i]? = some (putE (wipeE Γ vs) Γ vs)[i] := List.getElem?_eq_getElem h1
  have key : Γ[i]? = some (putE (wipeE Γ vs) Γ vs)[i] := by
    rcases putE_get e with ⟨q1, q2⟩ | ⟨_, q2⟩
    · rcases q1 with q1 | q1
      · rcases wipeE_get q2 with ⟨_, q3⟩ | ⟨q3, _⟩
        · exact q3
        · exact absurd q3 q1
      · rw [List.getElem?_eq_getElem h2] at q1; cases q1
    · exact q2
  rw [List.getElem?_eq_getElem h2] at key
  exact (Option.some.inj key).symm
theorem lc_pure {α : Type} {mi : MI} {g : MG} {mt : MT} {me : M} {vs : List Nat} {Γ : Env} {ts : List α} (enc : α → Dat) (f : α → Option Dat) (hi : mi Γ = some (ts.map enc, Γ)) (hp : plainAt Γ vs = true)
    (h : ∀ t ∈ ts, lcStep g mt me vs (enc t) (wipeE Γ vs) = some (f t, wipeE Γ vs)) (hl : ts.length ≤ lim) : mLc mi g mt me vs Γ = some (.own (.lst (ts.filterMap f)), Γ) := by
  unfold mLc
  rw [hi]
  simp only [Option.bind_some, hp, if_true]
  rw [lcL_pure enc f h (by simpa using hl)]
  simp [putE_wipe]
/-- each turn keeps P, what comes of it is told by R -/
theorem lcL_inv {α : Type} {g : MG} {mt : MT} {me : M} {vs : List Nat} (enc : α → Dat) (P : Env → Prop) (R : α → Option Dat → Prop) : ∀ {ts : List α} {acc : List Dat} {Γ : Env}, P Γ →
    (∀ t ∈ ts, ∀ Γ, P Γ → ∃ o Γ', lcStep g mt me vs (enc t) Γ = some (o, Γ') ∧ P Γ' ∧ R t o) → acc.length + ts.length ≤ lim →
    ∃ os Γ', lcL g mt me vs (ts.map enc) acc Γ = some (acc ++ os.filterMap id, Γ') ∧ P Γ' ∧ PySem.W.EachIs R ts os
  | [], acc, Γ, hP, _, _ => ⟨[], Γ, by simp [lcL], hP, .nil⟩
  | t :: ts, acc, Γ, hP, h, hl => by
    obtain ⟨o, Γ1, e1, hP1, hR⟩ := h t (by simp) Γ hP
    simp only [List.length_cons] at hl
    rw [List.map_cons, lcL_cons, e1]
    simp only [Option.bind_some]
    cases o with
    | none =>
      obtain ⟨os, Γ2, e2, hP2, hR2⟩ := lcL_inv enc P R (acc := acc) hP1 (fun t ht => h t (List.mem_cons_of_mem _ ht)) (by omega)
      exact ⟨none :: os, Γ2, by simpa using e2, hP2, .cons hR hR2⟩
    | some d =>
      obtain ⟨os, Γ2, e2, hP2, hR2⟩ := lcL_inv enc P R (acc := acc ++ [d]) hP1 (fun t ht => h t (List.mem_cons_of_mem _ ht)) (by rw [List.length_append, List.length_singleton]; omega)
      refine ⟨some d :: os, Γ2, ?_, hP2, .cons hR hR2⟩
      simp only
      rw [if_pos (by omega), e2]
      simp
theorem lc_inv {α : Type} {mi : MI} {g : MG} {mt : MT} {me : M} {vs : List Nat} {Γ Γ0 : Env} {ts : List α} (enc : α → Dat) (P : Env → Prop) (R : α → Option Dat → Prop) (hi : mi Γ = some (ts.map enc, Γ0)) (hp : plainAt Γ0 vs = true) (h0 : P (wipeE Γ0 vs))
    (h : ∀ t ∈ ts, ∀ Γ, P Γ → ∃ o Γ', lcStep g mt me vs (enc t) Γ = some (o, Γ') ∧ P Γ' ∧ R t o) (hl : ts.length ≤ lim) :
    ∃ os Γ', mLc mi g mt me vs Γ = some (.own (.lst (os.filterMap id)), putE Γ' Γ0 vs) ∧ P Γ' ∧ PySem.W.EachIs R ts os := by
  obtain ⟨os, Γ', e, hP, hR⟩ := lcL_inv (acc := []) enc P R h0 h (by simpa using hl)
  refine ⟨os, Γ', ?_, hP, hR⟩
  unfold mLc
  rw [hi]
  simp only [Option.bind_some, hp, if_true, e]
  simp
/-- loops whose turns keep P and never leave -/
def forStep (g : MG) (mb : MS) (x : Dat) (Γ : Env) : Option (Flw × Env) := (g (.d x) Γ).bind fun Γ1 => mb Γ1
theorem forL_inv {α : Type} {g : MG} {mb : MS} (enc : α → Dat) (P : Env → Prop) : ∀ {ts : List α} {Γ : Env}, P Γ → (∀ t ∈ ts, ∀ Γ, P Γ → ∃ Γ', forStep g mb (enc t) Γ = some (.nx, Γ') ∧ P Γ') →
    ∃ Γ', forL g mb (ts.map enc) Γ = some (.nx, Γ') ∧ P Γ'
  | [], Γ, hP, _ => ⟨Γ, by simp [forL], hP⟩
  | t :: ts, Γ, hP, h => by
    obtain ⟨Γ1, e1, hP1⟩ := h t (by simp) Γ hP
    obtain ⟨Γ2, e2, hP2⟩ := forL_inv enc P hP1 fun t ht => h t (List.mem_cons_of_mem _ ht)
    refine ⟨Γ2, ?_, hP2⟩
    rw [List.map_cons, forL]
    unfold forStep at e1
    cases hg : g (.d (enc t)) Γ with
    | none => rw [hg] at e1; cases e1
    | some Γ3 =>
      rw [hg] at e1
      simp only [Option.bind_some] at e1 ⊢
      rw [e1]
      simpa using e2
/-- loops that gather: S is what is gathered -/
theorem forL_acc {α σ : Type} {g : MG} {mb : MS} (enc : α → Dat) (P : σ → Env → Prop) (f : σ → α → σ) : ∀ {ts : List α} {s : σ} {Γ : Env}, P s Γ → (∀ s, ∀ t ∈ ts, ∀ Γ, P s Γ → ∃ Γ', forStep g mb (enc t) Γ = some (.nx, Γ') ∧ P (f s t) Γ') →
    ∃ Γ', forL g mb (ts.map enc) Γ = some (.nx, Γ') ∧ P (ts.foldl f s) Γ'
  | [], s, Γ, hP, _ => ⟨Γ, by simp [forL], hP⟩
  | t :: ts, s, Γ, hP, h => by
    obtain ⟨Γ1, e1, hP1⟩ := h s t (by simp) Γ hP
    obtain ⟨Γ2, e2, hP2⟩ := forL_acc enc P f hP1 fun s t ht => h s t (List.mem_cons_of_mem _ ht)
    refine ⟨Γ2, ?_, hP2⟩
    rw [List.map_cons, forL]
    unfold forStep at e1
    cases hg : g (.d (enc t)) Γ with
    | none => rw [hg] at e1; cases e1
    | some Γ3 =>
      rw [hg] at e1
      simp only [Option.bind_some] at e1 ⊢
      rw [e1]
      simpa using e2
@[simp] theorem ev_For (mi : MI) (g : MG) (mb : MS) (Γ : Env) : mFor mi g mb Γ = (mi Γ).bind fun p => forL g mb p.1 p.2 := rfl
@[simp] theorem ev_SeqI (m : M) (Γ : Env) : mSeqI m Γ = (m Γ).bind fun p => (settle p.2 p.1).bind fun q => (seqOf q.1).bind fun l => some (l.2, q.2) := rfl
@[simp] theorem ev_Enum (m : M) (Γ : Env) : mEnum m Γ = (m Γ).bind fun p => (settle p.2 p.1).bind fun q => (seqOf q.1).bind fun l => some (enumL l.2, q.2) := rfl
@[simp] theorem ev_Range1 (m : M) (Γ : Env) : mRange1 m Γ = (m Γ).bind fun p => match p.1 with | .d (.int n) => if -(2 ^ 62) ≤ n ∧ n < 2 ^ 62 then some (rngD 0 n, p.2) else none | _ => none := rfl
@[simp] theorem ev_wipe0 (Γ : Env) : wipeE Γ [] = Γ := rfl
@[simp] theorem ev_wipec (Γ : Env) (v : Nat) (vs : List Nat) : wipeE Γ (v :: vs) = (wipeE Γ vs).set v .no := rfl
@[simp] theorem ev_put0 (Γ Γ0 : Env) : putE Γ Γ0 [] = Γ := rfl
@[simp] theorem ev_putc (Γ Γ0 : Env) (v : Nat) (vs : List Nat) : putE Γ Γ0 (v :: vs) = match Γ0[v]? with | some g => (putE Γ Γ0 vs).set v g | none => putE Γ Γ0 vs := rfl
def rngI (n : Int) : List Int := (List.range n.toNat).map fun (i : Nat) => (i : Int)
theorem rngD_eq (n : Int) : rngD 0 n = (rngI n).map PyData.int := by
  unfold rngD rngI
  rw [List.map_map, Int.sub_zero]
  refine List.map_congr_left fun i _ => ?_
  simp
theorem rngI_mem {n x : Int} : x ∈ rngI n ↔ 0 ≤ x ∧ x < n := by
  unfold rngI
  simp only [List.mem_map, List.mem_range]
  constructor
  · rintro ⟨i, h, rfl⟩
    omega
  · rintro ⟨h1, h2⟩
    exact ⟨x.toNat, by omega, by omega⟩
theorem rngI_len (n : Int) : (rngI n).length = n.toNat := by simp [rngI]
theorem shp_ints (l : List Int) : SeqAt.shaped (.list (l.map PyData.int)) = true := by
  have h1 : ∀ l : List Int, PyData.canLayAll0 (l.map PyData.int) = true := fun l => by
    induction l with
    | nil => rfl
    | cons x r ih => rw [List.map_cons, PyData.canLayAll0, ih]; simp [PyData.canLay0]
  simp [SeqAt.shaped, PyData.canLay0, PyData.depth, h1, PySem.W.depth_ints]
@[simp] theorem ev_nel0 (l : List Int) : neD (.list (l.map PyData.int)) (.list []) = some (.bool (!l.isEmpty)) := by
  unfold neD
  have h : SeqAt.shaped (.list []) = true := shp_ints []
  rw [if_pos (by rw [shp_ints, h]; rfl)]
  cases l <;> simp [PyData.eqv, PyData.eqvAll]
@[simp] theorem ev_ne00 : neD (.list []) (.list []) = some (.bool false) := ev_nel0 []
/-- loops told by what is left -/
theorem forL_rem {α σ : Type} {g : MG} {mb : MS} (enc : α → Dat) (P : List α → σ → Env → Prop) (f : σ → α → σ) (h : ∀ t r s Γ, P (t :: r) s Γ → ∃ Γ', forStep g mb (enc t) Γ = some (.nx, Γ') ∧ P r (f s t) Γ') :
    ∀ {ts : List α} {s : σ} {Γ : Env}, P ts s Γ → ∃ Γ', forL g mb (ts.map enc) Γ = some (.nx, Γ') ∧ P [] (ts.foldl f s) Γ'
  | [], s, Γ, hP => ⟨Γ, by simp [forL], hP⟩
  | t :: ts, s, Γ, hP => by
    obtain ⟨Γ1, e1, hP1⟩ := h t ts s Γ hP
    obtain ⟨Γ2, e2, hP2⟩ := forL_rem enc P f h hP1
    refine ⟨Γ2, ?_, hP2⟩
    rw [List.map_cons, forL]
    unfold forStep at e1
    cases hg : g (.d (enc t)) Γ with
    | none => rw [hg] at e1; cases e1
    | some Γ3 =>
      rw [hg] at e1
      simp only [Option.bind_some] at e1 ⊢
      rw [e1]
      simpa using e2
theorem lcL2_pure {α β : Type} {g : MG} {mi1 : MI} {g1 : MG} {me : M} {vs vs1 : List Nat} {Γ : Env} (enc : α → Dat) (enc2 : β → Dat) (us : α → List β) (v : α → β → Dat) : ∀ {ts : List α} {acc : List Dat},
    (∀ t ∈ ts, ∃ Γ1 Γ2, g (.d (enc t)) Γ = some Γ1 ∧ mi1 Γ1 = some ((us t).map enc2, Γ2) ∧ (∀ u ∈ us t, lcStep g1 mYes me vs1 (enc2 u) (wipeE Γ2 vs1) = some (some (v t u), wipeE Γ2 vs1)) ∧ wipeE (wipeE Γ2 vs1) vs = Γ) →
    acc.length + (ts.flatMap fun t => (us t).map (v t)).length ≤ lim → lcL2 g mi1 g1 me vs vs1 (ts.map enc) acc Γ = some (acc ++ ts.flatMap fun t => (us t).map (v t), Γ)
  | [], acc, _, _ => by simp [lcL2]
  | t :: ts, acc, h, hl => by
    obtain ⟨Γ1, Γ2, e1, e2, e3, e4⟩ := h t (by simp)
    rw [List.flatMap_cons, List.length_append, List.length_map] at hl
    have e5 := lcL_pure (acc := acc) enc2 (fun u => some (v t u)) e3 (by omega)
    have e6 : (us t).filterMap (fun u => some (v t u)) = (us t).map (v t) := by rw [List.filterMap_eq_map']
    rw [e6] at e5
    rw [List.map_cons, lcL2, e1]
    simp only [Option.bind_some, e2, e5, e4]
    rw [lcL2_pure enc enc2 us v (fun t ht => h t (List.mem_cons_of_mem _ ht)) (by rw [List.length_append, List.length_map]; omega), List.flatMap_cons]
    simp
theorem lc2_pure {α β : Type} {mi : MI} {g : MG} {mi1 : MI} {g1 : MG} {me : M} {vs vs1 : List Nat} {Γ Γ0 : Env} {ts : List α} (enc : α → Dat) (enc2 : β → Dat) (us : α → List β) (v : α → β → Dat) (hi : mi Γ = some (ts.map enc, Γ0)) (hp : plainAt Γ0 vs = true)
    (h : ∀ t ∈ ts, ∃ Γ1 Γ2, g (.d (enc t)) (wipeE Γ0 vs) = some Γ1 ∧ mi1 Γ1 = some ((us t).map enc2, Γ2) ∧ (∀ u ∈ us t, lcStep g1 mYes me vs1 (enc2 u) (wipeE Γ2 vs1) = some (some (v t u), wipeE Γ2 vs1)) ∧ wipeE (wipeE Γ2 vs1) vs = wipeE Γ0 vs)
    (hl : (ts.flatMap fun t => (us t).map (v t)).length ≤ lim) : mLc2 mi g mi1 g1 me vs vs1 Γ = some (.own (.lst (ts.flatMap fun t => (us t).map (v t))), Γ0) := by
  unfold mLc2
  rw [hi]
  simp only [Option.bind_some, hp, if_true]
  rw [lcL2_pure enc enc2 us v h (by simpa using hl)]
  simp [putE_wipe]
end DL

set_option Elab.async false
set_option linter.all false
set_option maxRecDepth 100000
set_option maxHeartbeats 4000000
namespace DL
open PySem
/-- a test that holds -/
theorem if_g {α : Type} {c : Prop} [Decidable c] {a : Option α} (h : c) : (if c then a else none) = a := if_pos h
section
variable {Γ Γ1 Γ2 : Env}
theorem seq_nx {a b : MS} {r : Option (Flw × Env)} (h1 : a Γ = some (.nx, Γ1)) (h2 : b Γ1 = r) : mSeq a b Γ = r := by
  unfold mSeq
  rw [h1]
  exact h2
theorem set_of {g : MG} {m : M} {s : Slot} (h1 : m Γ = some (s, Γ1)) (h2 : g s Γ1 = some Γ2) : mSet g m Γ = some (.nx, Γ2) := by
  unfold mSet
  rw [h1]
  simp only [Option.bind_some]
  rw [h2]
  rfl
theorem if_no {t : MT} {a : MS} (h : t Γ = some (false, Γ1)) : mIfS t a mNext Γ = some (.nx, Γ1) := by
  unfold mIfS
  rw [h]
  rfl
theorem not_tru {m : M} (h : m Γ = some (.d (.bool true), Γ1)) : mNotT (mTru m) Γ = some (false, Γ1) := by
  unfold mNotT mTru
  rw [h]
  rfl
theorem ret_of {n : Nat} {m : M} {s s' : Slot} (h1 : m Γ = some (s, Γ1)) (h2 : outS n s Γ1 = some (s', Γ2)) : mRet n m Γ = some (.ret s', Γ2) := by
  unfold mRet
  rw [h1]
  simp only [Option.bind_some]
  rw [h2]
  rfl
theorem un_of {g : Slot → Env → Option (Slot × Env)} {m : M} {s : Slot} {r} (h1 : m Γ = some (s, Γ1)) (h2 : g s Γ1 = r) : mUn g m Γ = r := by
  unfold mUn
  rw [h1]
  exact h2
theorem bin_of {g : Slot → Slot → Env → Option (Slot × Env)} {a b : M} {s t : Slot} {r} (h1 : a Γ = some (s, Γ1)) (h2 : b Γ1 = some (t, Γ2)) (h3 : g s t Γ2 = r) : mBin g a b Γ = r := by
  unfold mBin
  rw [h1]
  simp only [Option.bind_some]
  rw [h2]
  exact h3
theorem mB_of {m : M} {c : Bool} (h : m Γ = some (.d (.bool c), Γ1)) : mB m Γ = some (c, Γ1) := by
  unfold mB
  rw [h]
  rfl
theorem tru_of {m : M} {c : Bool} (h : m Γ = some (.d (.bool c), Γ1)) : mTru m Γ = some (c, Γ1) := by
  unfold mTru
  rw [h]
  rfl
theorem not_of {t : MT} {c : Bool} (h : t Γ = some (c, Γ1)) : mNotT t Γ = some (!c, Γ1) := by
  unfold mNotT
  rw [h]
  rfl
theorem ifs_of {t : MT} {a b : MS} {c : Bool} (h : t Γ = some (c, Γ1)) : mIfS t a b Γ = if c then a Γ1 else b Γ1 := by
  unfold mIfS
  rw [h]
  rfl
theorem if_of {t : MT} {a b : M} {c : Bool} (h : t Γ = some (c, Γ1)) : mIf t a b Γ = if c then a Γ1 else b Γ1 := by
  unfold mIf
  rw [h]
  rfl
theorem for_of {mi : MI} {g : MG} {mb : MS} {items : List Dat} (h : mi Γ = some (items, Γ1)) : mFor mi g mb Γ = forL g mb items Γ1 := by
  unfold mFor
  rw [h]
  rfl
theorem seq_ret {a b : MS} {r : Slot} (h1 : a Γ = some (.ret r, Γ1)) : mSeq a b Γ = some (.ret r, Γ1) := by
  unfold mSeq
  rw [h1]
  rfl
theorem or_no {a b : MT} {r} (h1 : a Γ = some (false, Γ1)) (h2 : b Γ1 = r) : mOrT a b Γ = r := by
  unfold mOrT
  rw [h1]
  exact h2
theorem and_no {a b : MT} (h1 : a Γ = some (false, Γ1)) : mAndT a b Γ = some (false, Γ1) := by
  unfold mAndT
  rw [h1]
  rfl
theorem and_yes {a b : MT} {r} (h1 : a Γ = some (true, Γ1)) (h2 : b Γ1 = r) : mAndT a b Γ = r := by
  unfold mAndT
  rw [h1]
  exact h2
theorem dc_b {i : Nat} {r : MD} {o : Own} {l : List Dat} (h1 : Γ[i]? = some (.own o)) (h2 : r (Γ.set i (.d o.dat)) = some (l, Γ2)) : mDc (mVar i) r Γ = some (o.dat :: l, Γ2) := by
  unfold mDc
  rw [ev_vo h1]
  simp only [Option.bind_some, ev_setb, h1]
  rw [h2]
  rfl
theorem ac_of {m : M} {r : MA} {s : Slot} {ss : List Slot} (h1 : m Γ = some (s, Γ1)) (h2 : r Γ1 = some (ss, Γ2)) : mAc m r Γ = some (s :: ss, Γ2) := by
  unfold mAc
  rw [h1]
  simp only [Option.bind_some]
  rw [h2]
  rfl
theorem ac_p {m : M} {r : MA} {s : Slot} {ss : List Slot} (h1 : m Γ = some (s, Γ)) (h2 : r Γ = some (ss, Γ2)) : mAc m r Γ = some (s :: ss, Γ2) := ac_of h1 h2
theorem call_of {n : Nat} {F : FS} {ma : MA} {ss args outs : List Slot} {r : Slot} (h1 : ma Γ = some (ss, Γ1)) (h2 : argsS Γ1 ss = some args) (hF : F args = some (r, outs)) (h3 : backS Γ1 ss outs = Γ2 := by rfl) (hk : keepable r = true := by rfl)
    (hn : ss.length = n := by rfl) (hb : (borIx ss).Nodup := by simp) (ho : outs.length = args.length := by rfl) : mCall n F ma Γ = some (r, Γ2) := by
  unfold mCall
  rw [h1]
  simp only [Option.bind_some]
  rw [h2]
  simp only [Option.bind_some]
  rw [if_pos ⟨hn, hb⟩, hF]
  simp only [Option.bind_some]
  rw [if_pos ⟨hk, ho⟩, h3]
/-- a call whose arguments are data -/
theorem call1 {F : FS} {a : M} {s : Slot} {d : Dat} {r : Slot} (h1 : a Γ = some (s, Γ1)) (hs : s = .d d) (hF : F [.d d] = some (r, [.d d])) (hk : keepable r = true) : mCall 1 F (mAc a mA0) Γ = some (r, Γ1) := by
  subst hs
  simp only [ev_Call, ev_Ac, h1, Option.bind_some, ev_A0, ev_argsc, ev_argd, ev_args0, ev_bixd, ev_bix0, List.length_cons, List.length_nil]
  rw [if_pos (by simp), hF]
  simp only [Option.bind_some]
  rw [if_pos (by simp [hk])]
  simp
theorem call2 {F : FS} {a b : M} {d e : Dat} {r : Slot} (h1 : a Γ = some (.d d, Γ1)) (h2 : b Γ1 = some (.d e, Γ2)) (hF : F [.d d, .d e] = some (r, [.d d, .d e])) (hk : keepable r = true) : mCall 2 F (mAc a (mAc b mA0)) Γ = some (r, Γ2) := by
  simp only [ev_Call, ev_Ac, h1, h2, Option.bind_some, ev_A0, ev_argsc, ev_argd, ev_args0, ev_bixd, ev_bix0, List.length_cons, List.length_nil]
  rw [if_pos (by simp), hF]
  simp only [Option.bind_some]
  rw [if_pos (by simp [hk])]
  simp
theorem call3 {F : FS} {a b c : M} {d e f : Dat} {r : Slot} {Γ3 : Env} (h1 : a Γ = some (.d d, Γ1)) (h2 : b Γ1 = some (.d e, Γ2)) (h3 : c Γ2 = some (.d f, Γ3)) (hF : F [.d d, .d e, .d f] = some (r, [.d d, .d e, .d f])) (hk : keepable r = true) : mCall 3 F (mAc a (mAc b (mAc c mA0))) Γ = some (r, Γ3) := by
  simp only [ev_Call, ev_Ac, h1, h2, h3, Option.bind_some, ev_A0, ev_argsc, ev_argd, ev_args0, ev_bixd, ev_bix0, List.length_cons, List.length_nil]
  rw [if_pos (by simp), hF]
  simp only [Option.bind_some]
  rw [if_pos (by simp [hk])]
  simp
end
theorem lc_pureG {α : Type} {mi : MI} {g : MG} {mt : MT} {me : M} {vs : List Nat} {Γ Γ0 : Env} {ts : List α} (enc : α → Dat) (f : α → Option Dat) (hi : mi Γ = some (ts.map enc, Γ0)) (hp : plainAt Γ0 vs = true)
    (h : ∀ t ∈ ts, lcStep g mt me vs (enc t) (wipeE Γ0 vs) = some (f t, wipeE Γ0 vs)) (hl : ts.length ≤ lim) : mLc mi g mt me vs Γ = some (.own (.lst (ts.filterMap f)), Γ0) := by
  unfold mLc
  rw [hi]
  simp only [Option.bind_some, hp, if_true]
  rw [lcL_pure enc f h (by simpa using hl)]
  simp [putE_wipe]
theorem lc_map {α : Type} {mi : MI} {g : MG} {me : M} {vs : List Nat} {Γ Γ0 : Env} {ts : List α} (enc : α → Dat) (f : α → Dat) (hi : mi Γ = some (ts.map enc, Γ0)) (hp : plainAt Γ0 vs = true)
    (h : ∀ t ∈ ts, lcStep g mYes me vs (enc t) (wipeE Γ0 vs) = some (some (f t), wipeE Γ0 vs)) (hl : ts.length ≤ lim) : mLc mi g mYes me vs Γ = some (.own (.lst (ts.map f)), Γ0) := by
  have e := lc_pureG enc (fun t => some (f t)) hi hp h hl
  rwa [List.filterMap_eq_map'] at e
theorem lc_filter {α : Type} {mi : MI} {g : MG} {mt : MT} {me : M} {vs : List Nat} {Γ Γ0 : Env} {ts : List α} (enc : α → Dat) (p : α → Bool) (f : α → Dat) (hi : mi Γ = some (ts.map enc, Γ0)) (hp : plainAt Γ0 vs = true)
    (h : ∀ t ∈ ts, lcStep g mt me vs (enc t) (wipeE Γ0 vs) = some (if p t then some (f t) else none, wipeE Γ0 vs)) (hl : ts.length ≤ lim) : mLc mi g mt me vs Γ = some (.own (.lst ((ts.filter p).map f)), Γ0) := by
  have e := lc_pureG enc (fun t => if p t then some (f t) else none) hi hp h hl
  have ef : ∀ l : List α, l.filterMap (fun t => if p t then some (f t) else none) = (l.filter p).map f := fun l => by
    induction l with
    | nil => rfl
    | cons x r ih => by_cases h : p x <;> simp [h, ih]
  rwa [ef] at e
theorem sortU_nodup (l : List Str) : (sortU l).Nodup := (sortU_pw l).imp fun h e => by rw [e, ltS_irr] at h; cases h
/-! ### {text: v for ..}, sorted -/
section
variable {g : MG} {mt : MT} {mk mv : M} {vs : List Nat}
def dcStep (g : MG) (mt : MT) (mk mv : M) (vs : List Nat) (x : Dat) (Γ : Env) : Option (Option (L2.Key × Dat) × Env) := (g (.d x) Γ).bind fun Γ1 => (mt Γ1).bind fun p => if p.1 then
      (mk p.2).bind fun q => (settle q.2 q.1).bind fun s => (keyOfD s.1).bind fun k => (mv s.2).bind fun u => (settle u.2 u.1).bind fun t => some (some (k, t.1), wipeE t.2 vs)
    else some (none, wipeE p.2 vs)
theorem dcL_cons {x : Dat} {xs : List Dat} {acc : List (L2.Key × Dat)} {Γ : Env} (hl : acc.length < lim) : dcL g mt mk mv vs (x :: xs) acc Γ = (dcStep g mt mk mv vs x Γ).bind fun r => match r.1 with
    | some d => dcL g mt mk mv vs xs (putD acc d.1 d.2) r.2
    | none => dcL g mt mk mv vs xs acc r.2 := by
  unfold dcStep
  rw [dcL]
  cases g (.d x) Γ with
  | none => rfl
  | some Γ1 =>
    simp only [Option.bind_some]
    cases mt Γ1 with
    | none => rfl
    | some p =>
      simp only [Option.bind_some]
      cases p.1 with
      | false => simp
      | true =>
        simp only [if_true]
        cases mk p.2 with
        | none => rfl
        | some q =>
          simp only [Option.bind_some]
          cases settle q.2 q.1 with
          | none => rfl
          | some s =>
            simp only [Option.bind_some]
            cases keyOfD s.1 with
            | none => rfl
            | some k =>
              simp only [Option.bind_some]
              cases mv s.2 with
              | none => rfl
              | some u =>
                simp only [Option.bind_some]
                cases settle u.2 u.1 with
                | none => rfl
                | some t =>
                  simp only [Option.bind_some]
                  rw [if_pos hl]
theorem putD_len {acc : List (L2.Key × Dat)} {k : L2.Key} {d : Dat} : (putD acc k d).length ≤ acc.length + 1 := by
  induction acc with
  | nil => simp [putD]
  | cons p r ih =>
    rw [putD]
    split
    · simp
    · rw [List.length_cons, List.length_cons]; omega
def putAll {α : Type} (f : α → L2.Key × Dat) (ts : List α) (acc : List (L2.Key × Dat)) : List (L2.Key × Dat) := ts.foldl (fun a t => putD a (f t).1 (f t).2) acc
theorem dcL_pure {α : Type} {Γ : Env} (enc : α → Dat) (f : α → L2.Key × Dat) : ∀ {ts : List α} {acc : List (L2.Key × Dat)}, (∀ t ∈ ts, dcStep g mt mk mv vs (enc t) Γ = some (some (f t), Γ)) → acc.length + ts.length ≤ lim →
    dcL g mt mk mv vs (ts.map enc) acc Γ = some (putAll f ts acc, Γ)
  | [], acc, _, _ => rfl
  | t :: ts, acc, h, hl => by
    rw [List.length_cons] at hl
    have hp := putD_len (acc := acc) (k := (f t).1) (d := (f t).2)
    rw [List.map_cons, dcL_cons (by omega), h t (by simp)]
    simp only [Option.bind_some]
    rw [dcL_pure enc f (fun t ht => h t (List.mem_cons_of_mem _ ht)) (by omega)]
    rfl
theorem dc_pure {α : Type} {mi : MI} {Γ Γ0 : Env} {ts : List α} (enc : α → Dat) (f : α → L2.Key × Dat) (hi : mi Γ = some (ts.map enc, Γ0)) (hp : plainAt Γ0 vs = true)
    (h : ∀ t ∈ ts, dcStep g mt mk mv vs (enc t) (wipeE Γ0 vs) = some (some (f t), wipeE Γ0 vs)) (hl : ts.length ≤ lim) : mDcomp mi g mt mk mv vs Γ = some (.own (.dct (pairsD (putAll f ts []))), Γ0) := by
  unfold mDcomp
  rw [hi]
  simp only [Option.bind_some, hp, if_true]
  rw [dcL_pure enc f h (by simpa using hl)]
  simp [putE_wipe]
end
theorem put_strs {x : Str} {ks : List Str} : putD (ks.map fun k => ((Sum.inr k : L2.Key), PyData.bool true)) (.inr x) (.bool true) = ((if x ∈ ks then ks else ks ++ [x]).map fun k => ((Sum.inr k : L2.Key), PyData.bool true)) := by
  induction ks with
  | nil => simp [putD]
  | cons k r ih =>
    rw [List.map_cons, putD]
    by_cases e : k = x
    · subst e; simp
    · have e2 : ¬ (Sum.inr k : L2.Key) = .inr x := fun z => e (Sum.inr.inj z)
      have e3 : ¬ x = k := fun z => e z.symm
      rw [if_neg e2, ih]
      by_cases h : x ∈ r <;> simp [h, e3]
theorem putAll_strs {α : Type} (nm : α → Str) : ∀ (ts : List α) (ks : List Str), ks.Nodup → ∃ ls : List Str, putAll (fun t => ((Sum.inr (nm t) : L2.Key), PyData.bool true)) ts (ks.map fun k => (Sum.inr k, PyData.bool true)) = ls.map (fun k => (Sum.inr k, PyData.bool true)) ∧ ls.Nodup ∧ ls.length ≤ ks.length + ts.length ∧ ∀ x, x ∈ ls ↔ x ∈ ks ∨ x ∈ ts.map nm
  | [], ks, nd => ⟨ks, rfl, nd, by simp, by simp⟩
  | t :: ts, ks, nd => by
    have nd2 : (if nm t ∈ ks then ks else ks ++ [nm t]).Nodup := by
      split
      · exact nd
      · rename_i h
        rw [List.nodup_append]
        exact ⟨nd, by simp, fun a ha b hb e => h (by rw [List.mem_singleton.mp hb] at e; rw [← e]; exact ha)⟩
    obtain ⟨ls, h1, h2, h3, h4⟩ := putAll_strs nm ts _ nd2
    refine ⟨ls, ?_, h2, ?_, fun x => ?_⟩
    · rw [← h1]
      show putAll _ ts (putD _ _ _) = _
      rw [put_strs]
    · rw [List.length_cons]
      split at h3
      · omega
      · rw [List.length_append, List.length_singleton] at h3; omega
    · rw [h4, List.map_cons, List.mem_cons]
      split
      · rename_i h
        constructor
        · rintro (q | q)
          · exact .inl q
          · exact .inr (.inr q)
        · rintro (q | q | q)
          · exact .inl q
          · exact .inl (q ▸ h)
          · exact .inr q
      · rw [List.mem_append, List.mem_singleton, or_assoc]
theorem keysS_strs (ls : List Str) : keysS (pairsD (ls.map fun k => ((Sum.inr k : L2.Key), PyData.bool true))) = some ls := by
  induction ls with
  | nil => rfl
  | cons x r ih =>
    have e : keysS (pairsD ((x :: r).map fun k => ((Sum.inr k : L2.Key), PyData.bool true))) = (keysS (pairsD (r.map fun k => ((Sum.inr k : L2.Key), PyData.bool true)))).bind fun l => some (x :: l) := rfl
    rw [e, ih]
    rfl
/-- sorted({name: True for ..}) -/
theorem sortD_of {α : Type} {m : M} {Γ Γ1 : Env} (nm : α → Str) {ts : List α} (h : m Γ = some (.own (.dct (pairsD (putAll (fun t => ((Sum.inr (nm t) : L2.Key), PyData.bool true)) ts []))), Γ1)) (hl : ts.length < 64) :
    mUn gSortD m Γ = some (.own (.lst ((sortU (ts.map nm)).map PyData.str)), Γ1) := by
  obtain ⟨ls, h1, h2, h3, h4⟩ := putAll_strs nm ts [] List.nodup_nil
  rw [List.map_nil] at h1
  rw [h1] at h
  refine un_of h ?_
  unfold gSortD
  simp only [ev_viewo, ev_datd, Option.bind_some, keysS_strs]
  rw [if_pos ⟨h2, by simp only [List.length_nil] at h3; omega⟩, sortU_congr (xs := ls) (ys := ts.map nm) fun x => by rw [h4]; simp]
theorem sortSet_of {m : M} {Γ Γ1 : Env} {ns : List Str} (h : m Γ = some (.own (.lst (ns.map PyData.str)), Γ1)) (hl : ns.length < 64) : mUn gSortSet m Γ = some (.own (.lst ((sortU ns).map PyData.str)), Γ1) := by
  refine un_of h ?_
  unfold gSortSet
  simp only [ev_viewo, ev_datl, Option.bind_some, strsD_map]
  rw [if_pos hl]
end DL

set_option Elab.async false
set_option linter.all false
set_option maxRecDepth 100000
set_option maxHeartbeats 4000000
namespace K22
open PySem DL
/-! ### the bag -/
structure Bag where
  b0 : Int
  b1 : Int
  b2 : Int
  cells : List Int
def encBag (β : Bag) : Own := .lst [.int β.b0, .int β.b1, .int β.b2, .list (β.cells.map PyData.int)]
def OkBag (β : Bag) : Prop := 0 ≤ β.b0 ∧ 0 ≤ β.b2 ∧ β.cells.length ≤ 63
theorem cut_head (l : List Int) (lo : Int) : ∃ c r, cutL (l.map PyData.int) (some lo) none ++ [PyData.int 0] = PyData.int c :: r ∧ (cutL (l.map PyData.int) (some lo) none).length ≤ l.length := by
  have hl : (cutL (l.map PyData.int) (some lo) none).length ≤ l.length := by
    unfold cutL
    rw [List.length_take, List.length_drop, List.length_map]
    omega
  have hm : ∃ m : List Int, cutL (l.map PyData.int) (some lo) none = m.map PyData.int := by
    unfold cutL
    exact ⟨_, by rw [← List.map_drop, ← List.map_take]⟩
  obtain ⟨m, hm⟩ := hm
  rw [hm] at hl ⊢
  cases m with
  | nil => exact ⟨0, [], rfl, hl⟩
  | cons c r => exact ⟨c, _, rfl, hl⟩
theorem e_take {β : Bag} {n : Int} (h : OkBag β) (hn : 1 ≤ n) (hn2 : n < 1073741824) :
    ∃ v β', F__law_take [.own (encBag β), .d (.int n)] = some (.d (.int v), [.own (encBag β'), .d (.int n)]) ∧ 0 ≤ v ∧ v < n ∧ OkBag β' := by
  obtain ⟨b0, b1, b2, cells⟩ := β
  obtain ⟨h0, h2, h3⟩ := h
  simp only at h0 h2 h3
  obtain ⟨c, r, hc, hcl⟩ := cut_head cells b2
  have hlim : (63 : Nat) + 1 ≤ lim := by decide
  have hfd : fdC b0 n = true ∧ mdC b0 n = true := by constructor <;> simp [fdC, mdC] <;> omega
  have hfm : ∀ x : Int, 0 ≤ x.fmod n ∧ x.fmod n < n := fun x => ⟨Int.fmod_nonneg_of_pos x (by omega), Int.fmod_lt_of_pos x (by omega)⟩
  have hn0 : n ≠ 0 := by omega
  by_cases hb : b0 = 0
  · subst hb
    have hsz : (cutL (cells.map PyData.int) (some b2) none).length + 1 ≤ 1000000 := by omega
    have hcz : cells.length ≤ 1000000 := by omega
    by_cases hbig : 1000000000000000000 ≤ c
    · have h1 : 0 < c := by omega
      have hfd2 : fdC c n = true ∧ mdC c n = true := by constructor <;> simp [fdC, mdC] <;> omega
      refine ⟨c.fmod n, ⟨c.fdiv n, (b1 * 48271 + c.fmod 2147483647 + 7919 * (b2 + 1)).fmod 2147483647, b2 + 1, cells⟩, ?_, (hfm c).1, (hfm c).2, ⟨?_, ?_, h3⟩⟩
      · refine ev_runx [.own (encBag ⟨c.fdiv n, (b1 * 48271 + c.fmod 2147483647 + 7919 * (b2 + 1)).fmod 2147483647, b2 + 1, cells⟩), .d (.int n), .d (.int c), .d (.int (b1 * 48271 + c.fmod 2147483647 + 7919 * (b2 + 1))), .d (.int (c.fmod n)), .no, .no] ?_
        simp [encBag, hfd2, hsz, hcz, hc, hbig, h1, mulC, mdC, pwC, hn0]
      · exact Int.fdiv_nonneg (by omega) (by omega)
      · show 0 ≤ b2 + 1
        omega
    · let b1' := (b1 * 48271 + c.fmod 2147483647 + 7919 * (b2 + 1)).fmod 2147483647
      let bg := ((b1' + 1) * 39373).fmod 1000000007
      let sc := ((bg * bg).fmod 998244353 * 30011).fmod 998244353
      have hbg : ∀ x : Int, -18446744073709551616 < x.fmod 1000000007 ∧ x.fmod 1000000007 < 18446744073709551616 := fun x => by
        have h1 := Int.fmod_nonneg_of_pos x (show (0 : Int) < 1000000007 by decide)
        have h2 := Int.fmod_lt_of_pos x (show (0 : Int) < 1000000007 by decide)
        omega
      refine ⟨(sc.fdiv 7).fmod n, ⟨0, b1', b2 + 1, cells⟩, ?_, (hfm _).1, (hfm _).2, ⟨Int.le_refl 0, ?_, h3⟩⟩
      · refine ev_runx [.own (encBag ⟨0, b1', b2 + 1, cells⟩), .d (.int n), .d (.int c), .d (.int (b1 * 48271 + c.fmod 2147483647 + 7919 * (b2 + 1))), .no, .d (.int bg), .d (.int sc)] ?_
        simp [encBag, hsz, hcz, hc, hbig, mulC, mdC, pwC, fdC, hn0, hbg]
        try simp [b1', bg, sc]
      · show 0 ≤ b2 + 1
        omega
  · have hb' : 0 < b0 := by omega
    refine ⟨b0.fmod n, ⟨b0.fdiv n, b1, b2, cells⟩, ?_, (hfm b0).1, (hfm b0).2, ⟨?_, h2, h3⟩⟩
    · refine ev_runx [.own (encBag ⟨b0.fdiv n, b1, b2, cells⟩), .d (.int n), .no, .no, .d (.int (b0.fmod n)), .no, .no] ?_
      simp [encBag, hb, hb', hfd]
    · exact Int.fdiv_nonneg h0 (by omega)
end K22

set_option Elab.async false
set_option linter.all false
set_option maxRecDepth 100000
set_option maxHeartbeats 4000000
namespace K22
open PySem DL
theorem at_of {l : List Dat} {v : Int} (h0 : 0 ≤ v) (h1 : v < l.length) : ∃ x ∈ l, L2.atI l v = some x := by
  have hv : v.toNat < l.length := by omega
  have q := atI_nat (l := l) (i := v.toNat) (z := l[v.toNat]) (by simp [hv])
  rw [Int.toNat_of_nonneg h0] at q
  exact ⟨_, List.getElem_mem hv, q⟩
theorem e_some_own {β : Bag} {l : List Dat} (h : OkBag β) (hl : l ≠ []) (hz : l.length ≤ 1000000) :
    ∃ x β', x ∈ l ∧ OkBag β' ∧ F__law_some [.own (encBag β), .own (.lst l)] = some (.d x, [.own (encBag β'), .own (.lst l)]) := by
  have hp : 0 < l.length := List.length_pos_iff.mpr hl
  obtain ⟨v, β', e, h0, h1, hb⟩ := e_take (n := l.length) h (by omega) (by omega)
  obtain ⟨x, hx, ha⟩ := at_of h0 h1
  refine ⟨x, β', hx, hb, ?_⟩
  refine ev_runx [.own (encBag β'), .own (.lst l)] ?_
  simp [ev_Call, e, ha]
theorem e_some_l {β : Bag} {l : List Dat} (h : OkBag β) (hl : l ≠ []) (hz : l.length ≤ 1000000) :
    ∃ x β', x ∈ l ∧ OkBag β' ∧ F__law_some [.own (encBag β), .d (.list l)] = some (.d x, [.own (encBag β'), .d (.list l)]) := by
  have hp : 0 < l.length := List.length_pos_iff.mpr hl
  obtain ⟨v, β', e, h0, h1, hb⟩ := e_take (n := l.length) h (by omega) (by omega)
  obtain ⟨x, hx, ha⟩ := at_of h0 h1
  refine ⟨x, β', hx, hb, ?_⟩
  refine ev_runx [.own (encBag β'), .d (.list l)] ?_
  simp [ev_Call, e, ha]
theorem e_some_t {β : Bag} {l : List Dat} (h : OkBag β) (hl : l ≠ []) (hz : l.length ≤ 1000000) :
    ∃ x β', x ∈ l ∧ OkBag β' ∧ F__law_some [.own (encBag β), .d (.tuple l)] = some (.d x, [.own (encBag β'), .d (.tuple l)]) := by
  have hp : 0 < l.length := List.length_pos_iff.mpr hl
  obtain ⟨v, β', e, h0, h1, hb⟩ := e_take (n := l.length) h (by omega) (by omega)
  obtain ⟨x, hx, ha⟩ := at_of h0 h1
  refine ⟨x, β', hx, hb, ?_⟩
  refine ev_runx [.own (encBag β'), .d (.tuple l)] ?_
  simp [ev_Call, e, ha]
theorem e_states {β : Bag} {most : Int} (h : OkBag β) (h1 : 0 ≤ most) (h2 : most ≤ 1000) :
    ∃ l β', F__law_states [.own (encBag β), .d (.int most)] = some (.d (tupD l), [.own (encBag β'), .d (.int most)]) ∧ OkBag β' ∧ l ≠ [] ∧ (l.length : Int) ≤ most + 1 ∧ ∀ x ∈ l, 0 ≤ x ∧ x ≤ most := by
  obtain ⟨os, Γ', e, ⟨β1, hb1, rfl⟩, hR⟩ := lc_inv (mi := mRange1 (mBin gAdd (mVar 1) (mC (.int 1)))) (g := setS 3) (mt := mB (mBin gEq (mCall 2 F__law_take (mAc (mVar 0) (mAc (mC (.int 3)) mA0))) (mC (.int 0)))) (me := mVar 3) (vs := [3])
    (Γ := [.own (encBag β), .d (.int most), .no, .no]) (Γ0 := [.own (encBag β), .d (.int most), .no, .no]) (ts := rngI (most + 1)) PyData.int (fun Γ => ∃ β', OkBag β' ∧ Γ = [.own (encBag β'), .d (.int most), .no, .no]) (fun t o => o = none ∨ o = some (PyData.int t))
    (by have : -4611686018427387904 ≤ most + 1 ∧ most + 1 < 4611686018427387904 := by omega
        simp [rngD_eq, this]) rfl ⟨β, h, rfl⟩ (by
      rintro t _ _ ⟨β1, hb1, rfl⟩
      obtain ⟨v, β2, e, _, _, hb2⟩ := e_take (n := 3) hb1 (by decide) (by decide)
      by_cases hv : v = 0
      · exact ⟨some (.int t), [.own (encBag β2), .d (.int most), .no, .no], by simp [lcStep, ev_Call, e, hv], ⟨β2, hb2, rfl⟩, .inr rfl⟩
      · exact ⟨none, [.own (encBag β2), .d (.int most), .no, .no], by simp [lcStep, ev_Call, e, hv], ⟨β2, hb2, rfl⟩, .inl rfl⟩) (by rw [rngI_len]; show _ ≤ 1000000; omega)
  have hl : ∃ l : List Int, os.filterMap id = l.map PyData.int ∧ l.length ≤ (rngI (most + 1)).length ∧ ∀ x ∈ l, x ∈ rngI (most + 1) := by
    clear e
    generalize rngI (most + 1) = ts at hR
    induction hR with
    | nil => exact ⟨[], rfl, by simp, by simp⟩
    | @cons t o _ _ q _ ih =>
      obtain ⟨l, h3, h5, h4⟩ := ih
      rcases q with rfl | rfl
      · exact ⟨l, by simpa using h3, by rw [List.length_cons]; omega, fun x hx => List.mem_cons_of_mem _ (h4 x hx)⟩
      · refine ⟨t :: l, by simp [h3], by rw [List.length_cons, List.length_cons]; omega, fun x hx => ?_⟩
        rcases List.mem_cons.mp hx with rfl | hx
        · simp
        · exact List.mem_cons_of_mem _ (h4 x hx)
  obtain ⟨l, hl1, hl3, hl2⟩ := hl
  rw [rngI_len] at hl3
  rw [hl1] at e
  by_cases hn : l = []
  · subst hn
    obtain ⟨v, β2, e2, hv0, hv1, hb2⟩ := e_take (n := most + 1) hb1 (by omega) (by omega)
    refine ⟨[v], β2, ?_, hb2, by simp, by show (1 : Int) ≤ _; omega, fun x hx => ?_⟩
    · refine ev_runx [.own (encBag β2), .d (.int most), .own (.lst []), .no] ?_
      simp only [List.map_nil] at e
      simp [e, ev_Call, e2, tupD]
    · rw [List.mem_singleton.mp hx]
      omega
  · refine ⟨l, β1, ?_, hb1, hn, by omega, fun x hx => ?_⟩
    · refine ev_runx [.own (encBag β1), .d (.int most), .own (.lst (l.map PyData.int)), .no] ?_
      simp [e, hn, tupD]
    · have := rngI_mem.mp (hl2 x hx)
      omega
/-! ### books -/
structure Bk where
  name : Str
  errs : Int
  traits : List (Str × Int × Int)
  kinds : List (Str × Str × List (List Int))
def encT (t : Str × Int × Int) : Dat := .tuple [.str t.1, .int t.2.1, .int t.2.2]
def encK (k : Str × Str × List (List Int)) : Dat := .tuple [.str k.1, .str k.2.1, .tuple (k.2.2.map tupD)]
def encB (b : Bk) : Dat := .tuple [.str b.name, .int b.errs, .tuple (b.traits.map encT), .tuple (b.kinds.map encK)]
def OkL (t : Str × Int × Int) (l : List Int) : Prop := l ≠ [] ∧ l.length ≤ 3 ∧ ∀ x ∈ l, 0 ≤ x ∧ x ≤ t.2.1
def OkG (s : Str) : Prop := s = "night" ∨ s = "yard"
def OkKd (ts : List (Str × Int × Int)) (k : Str × Str × List (List Int)) : Prop := PySem.W.EachIs OkL ts k.2.2 ∧ OkG k.2.1
def OkTs (ts : List (Str × Int × Int)) : Prop := 2 ≤ ts.length ∧ ts.length ≤ 4 ∧ ∀ t ∈ ts, 1 ≤ t.2.1 ∧ t.2.1 ≤ 2
theorem e_a_kind {β : Bag} {name : Str} {ts : List (Str × Int × Int)} (h : OkBag β) (ht : OkTs ts) :
    ∃ k β', F__law_a_kind [.own (encBag β), .d (.str name), .d (.tuple (ts.map encT))] = some (.d (encK k), [.own (encBag β'), .d (.str name), .d (.tuple (ts.map encT))]) ∧ OkBag β' ∧ OkKd ts k := by
  obtain ⟨g, β1, hg, hb1, e1⟩ := e_some_own (l := [.str "night", .str "yard"]) h (by simp) (by simp)
  have hgs : ∃ s, g = PyData.str s ∧ OkG s := by
    simp only [List.mem_cons, List.not_mem_nil, or_false] at hg
    rcases hg with rfl | rfl
    · exact ⟨_, rfl, .inl rfl⟩
    · exact ⟨_, rfl, .inr rfl⟩
  obtain ⟨s, rfl, hsg⟩ := hgs
  obtain ⟨os, Γ', e2, ⟨β2, hb2, rfl⟩, hR⟩ := lc_inv (mi := mSeqI (mVar 2)) (g := setT 3 (setC (setS 3) (setC (setS 4) (setC (setS 5) setN)))) (mt := mYes) (me := mCall 2 F__law_states (mAc (mVar 0) (mAc (mVar 4) mA0))) (vs := [3, 4, 5])
    (Γ := [.own (encBag β1), .d (.str name), .d (.tuple (ts.map encT)), .no, .no, .no]) (Γ0 := [.own (encBag β1), .d (.str name), .d (.tuple (ts.map encT)), .no, .no, .no]) (ts := ts) encT
    (fun Γ => ∃ β', OkBag β' ∧ Γ = [.own (encBag β'), .d (.str name), .d (.tuple (ts.map encT)), .no, .no, .no]) (fun t o => ∃ l, o = some (tupD l) ∧ OkL t l)
    (by simp) rfl ⟨β1, hb1, rfl⟩ (by
      rintro t hm _ ⟨β1, hb1, rfl⟩
      have q := ht.2.2 t hm
      obtain ⟨l, β2, e, hb2, q1, q2, q3⟩ := e_states (most := t.2.1) hb1 (by omega) (by omega)
      exact ⟨some (tupD l), [.own (encBag β2), .d (.str name), .d (.tuple (ts.map encT)), .no, .no, .no], by simp [lcStep, encT, ev_Call, e], ⟨β2, hb2, rfl⟩, l, rfl, q1, by omega, q3⟩) (by have := ht.2.1; show _ ≤ 1000000; omega)
  have hl : ∃ ls : List (List Int), os.filterMap id = ls.map tupD ∧ PySem.W.EachIs OkL ts ls := by
    clear e2 ht
    induction hR with
    | nil => exact ⟨[], rfl, .nil⟩
    | cons q _ ih =>
      obtain ⟨ls, h3, h4⟩ := ih
      obtain ⟨l, rfl, q⟩ := q
      exact ⟨l :: ls, by simp [h3], .cons q h4⟩
  obtain ⟨ls, hl1, hl2⟩ := hl
  rw [hl1] at e2
  refine ⟨(name, s, ls), β2, ?_, hb2, hl2, hsg⟩
  refine ev_runx [.own (encBag β2), .d (.str name), .d (.tuple (ts.map encT)), .no, .no, .no] ?_
  simp [ev_Call, e1, e2, encK]
end K22

set_option Elab.async false
set_option linter.all false
set_option maxRecDepth 100000
set_option maxHeartbeats 4000000
namespace K22
open PySem DL
def OkBk (b : Bk) : Prop := OkTs b.traits ∧ 2 ≤ b.kinds.length ∧ b.kinds.length ≤ 7 ∧ (∀ k ∈ b.kinds, OkKd b.traits k) ∧ 0 ≤ b.errs ∧ b.errs ≤ 2
theorem cut_names {v : Int} (h0 : 0 ≤ v) (h1 : v < 3) : ∃ ns : List Str, cutL [PyData.str "beak", .str "leg", .str "wing", .str "song"] none (some (2 + v)) = ns.map PyData.str ∧ 2 ≤ ns.length ∧ ns.length ≤ 4 := by
  have : v = 0 ∨ v = 1 ∨ v = 2 := by omega
  rcases this with rfl | rfl | rfl
  · exact ⟨["beak", "leg"], rfl, by decide, by decide⟩
  · exact ⟨["beak", "leg", "wing"], rfl, by decide, by decide⟩
  · exact ⟨["beak", "leg", "wing", "song"], rfl, by decide, by decide⟩
theorem cut_kinds {v : Int} (h0 : 0 ≤ v) (h1 : v < 4) : ∃ ns : List Str, cutL [PyData.str "owl", .str "hen", .str "bat", .str "crow", .str "jay"] none (some (2 + v)) = ns.map PyData.str ∧ 2 ≤ ns.length ∧ ns.length ≤ 5 := by
  have : v = 0 ∨ v = 1 ∨ v = 2 ∨ v = 3 := by omega
  rcases this with rfl | rfl | rfl | rfl
  · exact ⟨["owl", "hen"], rfl, by decide, by decide⟩
  · exact ⟨["owl", "hen", "bat"], rfl, by decide, by decide⟩
  · exact ⟨["owl", "hen", "bat", "crow"], rfl, by decide, by decide⟩
  · exact ⟨["owl", "hen", "bat", "crow", "jay"], rfl, by decide, by decide⟩
theorem gather {α γ : Type} {R : α → γ → Prop} {enc : γ → Dat} : ∀ {ts : List α} {os : List (Option Dat)}, PySem.W.EachIs (fun t o => ∃ c, o = some (enc c) ∧ R t c) ts os → ∃ cs : List γ, os.filterMap id = cs.map enc ∧ PySem.W.EachIs R ts cs
  | _, _, .nil => ⟨[], rfl, .nil⟩
  | _, _, .cons q r => by
    obtain ⟨cs, h3, h4⟩ := gather r
    obtain ⟨c, rfl, q⟩ := q
    exact ⟨c :: cs, by simp [h3], .cons q h4⟩
theorem each_len {α γ : Type} {R : α → γ → Prop} : ∀ {ts : List α} {cs : List γ}, PySem.W.EachIs R ts cs → ts.length = cs.length
  | _, _, .nil => rfl
  | _, _, .cons _ r => by simp [each_len r]
theorem each_mem {α γ : Type} {R : α → γ → Prop} {c : γ} : ∀ {ts : List α} {cs : List γ}, PySem.W.EachIs R ts cs → c ∈ cs → ∃ t ∈ ts, R t c
  | _, _, .nil, h => by cases h
  | _, _, .cons q r, h => by
    rcases List.mem_cons.mp h with rfl | h
    · exact ⟨_, by simp, q⟩
    · obtain ⟨t, h1, h2⟩ := each_mem r h
      exact ⟨t, List.mem_cons_of_mem _ h1, h2⟩
theorem e_book {β : Bag} (h : OkBag β) : ∃ b β', F__law_book [.own (encBag β)] = some (.d (encB b), [.own (encBag β')]) ∧ OkBag β' ∧ OkBk b := by
  obtain ⟨v1, β1, e1, h10, h11, hb1⟩ := e_take (n := 3) h (by decide) (by decide)
  obtain ⟨ns, hns, hn2, hn4⟩ := cut_names h10 h11
  -- the traits
  obtain ⟨os, Γ', e2, ⟨β2, hb2, rfl⟩, hR⟩ := lc_inv (mi := mSeqI (mVar 1)) (g := setS 3) (mt := mYes) (me := mTup (mDc (mVar 3) (mDc (mBin gAdd (mC (.int 1)) (mCall 2 F__law_take (mAc (mVar 0) (mAc (mC (.int 2)) mA0)))) (mDc (mBin gAdd (mC (.int 1)) (mCall 2 F__law_take (mAc (mVar 0) (mAc (mC (.int 4)) mA0)))) mD0)))) (vs := [3])
    (Γ := [.own (encBag β1), .own (.lst (ns.map PyData.str)), .no, .no, .no]) (Γ0 := [.own (encBag β1), .d (.list (ns.map PyData.str)), .no, .no, .no]) (ts := ns) PyData.str
    (fun Γ => ∃ β', OkBag β' ∧ Γ = [.own (encBag β'), .d (.list (ns.map PyData.str)), .no, .no, .no]) (fun t o => ∃ c, o = some (encT c) ∧ (1 ≤ c.2.1 ∧ c.2.1 ≤ 2))
    (by simp) rfl ⟨β1, hb1, rfl⟩ (by
      rintro t hm _ ⟨β1, hb1, rfl⟩
      obtain ⟨v, β2, e, a0, a1, hb2⟩ := e_take (n := 2) hb1 (by decide) (by decide)
      obtain ⟨u, β3, e', b0, b1, hb3⟩ := e_take (n := 4) hb2 (by decide) (by decide)
      exact ⟨some (encT (t, 1 + v, 1 + u)), [.own (encBag β3), .d (.list (ns.map PyData.str)), .no, .no, .no], by simp [lcStep, encT, ev_Call, e, e'], ⟨β3, hb3, rfl⟩, (t, 1 + v, 1 + u), rfl, by constructor <;> simp only <;> omega⟩) (by show _ ≤ 1000000; omega)
  obtain ⟨ts, ht1, ht2⟩ := gather hR
  rw [ht1] at e2
  have hts : OkTs ts := by
    have hl := each_len ht2
    refine ⟨by omega, by omega, fun t ht => ?_⟩
    obtain ⟨_, _, q⟩ := each_mem ht2 ht
    exact q
  obtain ⟨v3, β3, e3, h30, h31, hb3⟩ := e_take (n := 4) hb2 (by decide) (by decide)
  obtain ⟨ks, hks, hk2, hk5⟩ := cut_kinds h30 h31
  obtain ⟨os2, Γ', e4, ⟨β4, hb4, rfl⟩, hR2⟩ := lc_inv (mi := mSeqI (mSl (mLst (mDc (mC (.str "owl")) (mDc (mC (.str "hen")) (mDc (mC (.str "bat")) (mDc (mC (.str "crow")) (mDc (mC (.str "jay")) mD0)))))) mO0 (mO1 (mBin gAdd (mC (.int 2)) (mCall 2 F__law_take (mAc (mVar 0) (mAc (mC (.int 4)) mA0))))))) (g := setS 3) (mt := mYes) (me := mCall 3 F__law_a_kind (mAc (mVar 0) (mAc (mVar 3) (mAc (mVar 2) mA0)))) (vs := [3])
    (Γ := [.own (encBag β2), .d (.list (ns.map PyData.str)), .d (.tuple (ts.map encT)), .no, .no]) (Γ0 := [.own (encBag β3), .d (.list (ns.map PyData.str)), .d (.tuple (ts.map encT)), .no, .no]) (ts := ks) PyData.str
    (fun Γ => ∃ β', OkBag β' ∧ Γ = [.own (encBag β'), .d (.list (ns.map PyData.str)), .d (.tuple (ts.map encT)), .no, .no]) (fun t o => ∃ c, o = some (encK c) ∧ OkKd ts c)
    (by simp [ev_Call, e3, hks]) rfl ⟨β3, hb3, rfl⟩ (by
      rintro t hm _ ⟨β1, hb1, rfl⟩
      obtain ⟨k, β2, e, hb2, hk⟩ := e_a_kind (name := t) hb1 hts
      exact ⟨some (encK k), [.own (encBag β2), .d (.list (ns.map PyData.str)), .d (.tuple (ts.map encT)), .no, .no], by simp [lcStep, ev_Call, e], ⟨β2, hb2, rfl⟩, k, rfl, hk⟩) (by show _ ≤ 1000000; omega)
  obtain ⟨kl, hk1, hk3⟩ := gather hR2
  rw [hk1] at e4
  obtain ⟨er, β5, he, hb5, e5⟩ := e_some_own (l := [.int 0, .int 1, .int 1, .int 0, .int 2]) hb4 (by simp) (by simp)
  have hes : ∃ i, er = PyData.int i ∧ 0 ≤ i ∧ i ≤ 2 := by
    simp only [List.mem_cons, List.not_mem_nil, or_false] at he
    rcases he with rfl | rfl | rfl | rfl | rfl <;> exact ⟨_, rfl, by decide, by decide⟩
  obtain ⟨i, rfl, hi0, hi2⟩ := hes
  have hkl := each_len hk3
  refine ⟨⟨"drawn", i, ts, kl⟩, β5, ?_, hb5, hts, by show 2 ≤ kl.length; omega, by show kl.length ≤ 7; omega, fun k hk => ?_, hi0, hi2⟩
  · refine ev_runx [.own (encBag β5), .d (.list (ns.map PyData.str)), .d (.tuple (ts.map encT)), .no, .d (.tuple (kl.map encK))] ?_
    simp [ev_Call, e1, hns, e2, e4, e5, encB]
  · obtain ⟨_, _, q⟩ := each_mem hk3 hk
    exact q
end K22

set_option Elab.async false
set_option linter.all false
set_option maxRecDepth 100000
set_option maxHeartbeats 4000000
namespace K22
open PySem DL
theorem cut_take {l : List Dat} {i : Nat} : cutL l none (some (i : Int)) = l.take i := by
  unfold cutL
  simp only [HT.sIx]
  rw [if_neg (by omega)]
  simp only [Int.toNat_natCast, List.drop_zero, Nat.sub_zero]
  by_cases h : i ≤ l.length
  · rw [Nat.min_eq_left h]
  · rw [Nat.min_eq_right (by omega), List.take_of_length_le (Nat.le_refl _), List.take_of_length_le (by omega)]
theorem cut_drop {l : List Dat} {i : Nat} : cutL l (some (i : Int)) none = l.drop i := by
  unfold cutL
  simp only [HT.sIx]
  rw [if_neg (by omega)]
  simp only [Int.toNat_natCast]
  by_cases h : i ≤ l.length
  · rw [Nat.min_eq_left h, List.take_of_length_le (by rw [List.length_drop]; exact Nat.le_refl _)]
  · rw [Nat.min_eq_right (by omega), List.drop_of_length_le (Nat.le_refl _), List.drop_of_length_le (by omega)]
    simp
theorem cut_drop1 {l : List Dat} {i : Nat} : cutL l (some ((i : Int) + 1)) none = l.drop (i + 1) := cut_drop (i := i + 1)
/-- the i-th is put anew -/
def putAt {α : Type} (l : List α) (i : Nat) (x : α) : List α := l.take i ++ x :: l.drop (i + 1)
theorem putAt_len {α : Type} {l : List α} {i : Nat} {x : α} (h : i < l.length) : (putAt l i x).length = l.length := by
  unfold putAt
  rw [List.length_append, List.length_cons, List.length_take, List.length_drop]
  omega
theorem putAt_mem {α : Type} {l : List α} {i : Nat} {x y : α} (h : y ∈ putAt l i x) : y = x ∨ y ∈ l := by
  unfold putAt at h
  rcases List.mem_append.mp h with h | h
  · exact .inr (List.mem_of_mem_take h)
  · rcases List.mem_cons.mp h with h | h
    · exact .inl h
    · exact .inr (List.mem_of_mem_drop h)
theorem each_putR {α γ : Type} {R : α → γ → Prop} : ∀ {ts : List α} {cs : List γ} {i : Nat} {t : α} {c : γ}, PySem.W.EachIs R ts cs → ts[i]? = some t → R t c → PySem.W.EachIs R ts (putAt cs i c)
  | _, _, _, _, _, .nil, h, _ => by simp at h
  | _, _, 0, _, _, .cons q r, h, k => by
    simp at h
    subst h
    exact .cons k (by simpa using r)
  | _, _, i + 1, _, _, .cons q r, h, k => .cons q (each_putR r (by simpa using h) k)
theorem each_putL {α γ : Type} {R : α → γ → Prop} : ∀ {ts : List α} {cs : List γ} {i : Nat} {t t' : α}, PySem.W.EachIs R ts cs → ts[i]? = some t → (∀ c, R t c → R t' c) → PySem.W.EachIs R (putAt ts i t') cs
  | _, _, _, _, _, .nil, h, _ => by simp at h
  | _, _, 0, _, _, .cons q r, h, k => by
    simp at h
    subst h
    exact .cons (k _ q) (by simpa using r)
  | _, _, i + 1, _, _, .cons q r, h, k => .cons q (each_putL r (by simpa using h) k)
theorem nodup_le {α : Type} [DecidableEq α] : ∀ {l m : List α}, l.Nodup → (∀ x ∈ l, x ∈ m) → l.length ≤ m.length
  | [], _, _, _ => Nat.zero_le _
  | x :: l, m, nd, h => by
    obtain ⟨n1, n2⟩ := List.nodup_cons.mp nd
    have hx := h x (by simp)
    have := nodup_le (l := l) (m := m.erase x) n2 fun y hy => (List.mem_erase_of_ne (show y ≠ x from fun e => n1 (by rw [← e]; exact hy))).mpr (h y (List.mem_cons_of_mem _ hy))
    rw [List.length_erase_of_mem hx] at this
    have hp := List.length_pos_of_mem hx
    rw [List.length_cons]
    omega
def names7 : List Str := ["ka", "kb", "kc", "kd", "ke", "kf", "kg"]
theorem fresh_one {ks : List Str} (h : ks.length < 7) : ∃ x r, names7.filter (fun x => decide (x ∉ ks)) = x :: r := by
  cases e : names7.filter (fun x => decide (x ∉ ks)) with
  | cons x r => exact ⟨x, r, rfl⟩
  | nil =>
    have hall : ∀ x ∈ names7, x ∈ ks := fun x hx => by
      have := List.filter_eq_nil_iff.mp e x hx
      simpa using this
    have := nodup_le (l := names7) (by decide) hall
    have e7 : names7.length = 7 := by decide
    omega
@[simp] theorem inD_strs (neg : Bool) (x : Str) (ks : List Str) : inD neg (.str x) (.list (ks.map PyData.str)) = some (.bool (if neg then !decide (x ∈ ks) else decide (x ∈ ks))) := by
  have h1 : (ks.map PyData.str).all flatD = true := by simp [flatD]
  have h2 : ((ks.map PyData.str).any fun z => PyData.eqv z (.str x)) = decide (x ∈ ks) := by
    induction ks with
    | nil => simp
    | cons k r ih =>
      have := ih (by simp [flatD])
      rw [List.map_cons, List.any_cons, this, PyData.eqv]
      by_cases e : k = x
      · subst e; simp
      · have e' : ¬ x = k := fun z => e z.symm
        simp [e, e']
  unfold inD
  simp only [ev_seql, Option.bind_some]
  rw [if_pos (by simp [h1]; rfl), h2]
theorem e_fresh {a0 a1 a2 a3 a4 a6 a7 a8 a9 a10 a11 a12 a13 a16 : Slot} {ks : List (Str × Str × List (List Int))} (hs : ks.length < 7) :
    ∃ x r, mLc (mSeqI (mLst (mDc (mC (.str "ka")) (mDc (mC (.str "kb")) (mDc (mC (.str "kc")) (mDc (mC (.str "kd")) (mDc (mC (.str "ke")) (mDc (mC (.str "kf")) (mDc (mC (.str "kg")) mD0))))))))) (setS 14) (mB (mBin gNin (mVar 14) (mLc (mSeqI (mVar 5)) (setS 15) mYes (mBin gIx (mVar 15) (mC (.int 0))) [15]))) (mVar 14) [14] [a0, a1, a2, a3, a4, .d (.tuple (ks.map encK)), a6, a7, a8, a9, a10, a11, a12, a13, .no, .no, a16] = some (.own (.lst (.str x :: r)), [a0, a1, a2, a3, a4, .d (.tuple (ks.map encK)), a6, a7, a8, a9, a10, a11, a12, a13, .no, .no, a16]) := by
  obtain ⟨x, r, hx⟩ := fresh_one (ks := ks.map (·.1)) (by simpa using hs)
  have e := lc_pure (mi := (mSeqI (mLst (mDc (mC (.str "ka")) (mDc (mC (.str "kb")) (mDc (mC (.str "kc")) (mDc (mC (.str "kd")) (mDc (mC (.str "ke")) (mDc (mC (.str "kf")) (mDc (mC (.str "kg")) mD0)))))))))) (g := setS 14)
    (mt := mB (mBin gNin (mVar 14) (mLc (mSeqI (mVar 5)) (setS 15) mYes (mBin gIx (mVar 15) (mC (.int 0))) [15]))) (me := mVar 14) (vs := [14]) (Γ := [a0, a1, a2, a3, a4, .d (.tuple (ks.map encK)), a6, a7, a8, a9, a10, a11, a12, a13, .no, .no, a16]) (ts := names7) PyData.str
    (fun t => if t ∉ ks.map (·.1) then some (.str t) else none) (by simp [names7]) rfl (fun t _ => ?_) (by decide)
  · refine ⟨x, r.map PyData.str, ?_⟩
    rw [e]
    have e2 : ∀ l : List Str, l.filterMap (fun t => if t ∉ ks.map (·.1) then some (PyData.str t) else none) = (l.filter fun x => decide (x ∉ ks.map (·.1))).map PyData.str := fun l => by
      induction l with
      | nil => rfl
      | cons a l ih =>
        by_cases q : a ∉ ks.map (·.1)
        · rw [List.filterMap_cons_some (by rw [if_pos q]), ih, List.filter_cons_of_pos (by simpa using q), List.map_cons]
        · rw [List.filterMap_cons_none (by rw [if_neg q]), ih, List.filter_cons_of_neg (by simpa using q)]
    rw [e2, hx]
    rfl
  · have ei := lc_pure (mi := mSeqI (mVar 5)) (g := setS 15) (mt := mYes) (me := mBin gIx (mVar 15) (mC (.int 0))) (vs := [15]) (Γ := [a0, a1, a2, a3, a4, .d (.tuple (ks.map encK)), a6, a7, a8, a9, a10, a11, a12, a13, .d (.str t), .no, a16]) (ts := ks) encK (fun k => some (.str k.1))
      (by simp) rfl (fun k _ => by simp [lcStep, encK]) (by show _ ≤ 1000000; omega)
    have ek : ks.filterMap (fun k => some (PyData.str k.1)) = (ks.map (·.1)).map PyData.str := by
      rw [List.filterMap_eq_map', List.map_map]
      rfl
    rw [ek] at ei
    clear ek hx
    generalize ks.map (fun k => k.1) = nm at ei ⊢
    by_cases q : t ∈ nm
    · rw [if_neg (fun z => z q)]
      simp [lcStep, ei, q]
    · rw [if_pos q]
      simp [lcStep, ei, q]
/-- a result that is a book -/
theorem e_turned {β : Bag} {b : Bk} (h : OkBag β) (hb : OkBk b) : ∃ b' β', F__law_turned [.own (encBag β), .d (encB b)] = some (.d (encB b'), [.own (encBag β'), .d (encB b)]) ∧ OkBag β' ∧ OkBk b' := by
  obtain ⟨name, errs, ts, ks⟩ := b
  obtain ⟨hts, hk2, hk7, hks, he0, he2⟩ := hb
  simp only at hts hk2 hk7 hks he0 he2
  have ht2 := hts.1
  have ht4 := hts.2.1
  obtain ⟨way, β1, e1, w0, w7, h1⟩ := e_take (n := 7) h (by decide) (by decide)
  obtain ⟨va, β2, e2, a0, a1, h2⟩ := e_take (n := ks.length) h1 (by omega) (by omega)
  obtain ⟨vt, β3, e3, t0, t1, h3⟩ := e_take (n := ts.length) h2 (by omega) (by omega)
  obtain ⟨ia, rfl⟩ : ∃ i : Nat, va = i := ⟨va.toNat, by omega⟩
  obtain ⟨it, rfl⟩ : ∃ i : Nat, vt = i := ⟨vt.toNat, by omega⟩
  have hia : ia < ks.length := by omega
  have hit : it < ts.length := by omega
  obtain ⟨kd, hkd⟩ : ∃ k, ks[ia]? = some k := ⟨_, List.getElem?_eq_getElem hia⟩
  obtain ⟨td, htd⟩ : ∃ t, ts[it]? = some t := ⟨_, List.getElem?_eq_getElem hit⟩
  have hkm : kd ∈ ks := List.mem_of_getElem? hkd
  have htm : td ∈ ts := List.mem_of_getElem? htd
  have hkk := hks kd hkm
  obtain ⟨own, group, shows⟩ := kd
  obtain ⟨tn, tm, tp⟩ := td
  have htd' := hts.2.2 _ htm
  simp only at htd'
  have hsl : ts.length = shows.length := each_len hkk.1
  have atK : L2.atI (ks.map encK) (ia : Int) = some (encK (own, group, shows)) := atI_nat (by rw [List.getElem?_map, hkd]; rfl)
  have atT : L2.atI (ts.map encT) (it : Int) = some (encT (tn, tm, tp)) := atI_nat (by rw [List.getElem?_map, htd]; rfl)
  have mt : min it ts.length = it := by omega
  have mk : min ia ks.length = ia := by omega
  have ms : min it shows.length = it := by omega
  have l1 : it ≤ 999999 := by omega
  have l2 : ia ≤ 999999 := by omega
  have l3 : it + 1 + (ts.length - (it + 1)) ≤ 1000000 := by omega
  have l4 : ia + 1 + (ks.length - (ia + 1)) ≤ 1000000 := by omega
  have l5 : ia + 1 + (ks.length - ia) ≤ 1000000 := by omega
  have l6 : ia + (ks.length - (ia + 1)) ≤ 1000000 := by omega
  have l7 : it + 1 + (shows.length - (it + 1)) ≤ 1000000 := by omega
  by_cases w_0 : way = 0
  · subst w_0
    obtain ⟨er, β4, e4, r0, r1, h4⟩ := e_take (n := 3) h3 (by decide) (by decide)
    refine ⟨⟨name, er, ts, ks⟩, β4, ?_, h4, hts, hk2, hk7, hks, r0, by show er ≤ 2; omega⟩
    refine ev_runx [.own (encBag β4), .d (encB ⟨name, errs, ts, ks⟩), .d (.str name), .d (.int errs), .d (.tuple (ts.map encT)), .d (.tuple (ks.map encK)), .d (.int 0), .d (.int ia), .d (.int it), .d (.str own), .d (.str group), .d (.tuple (shows.map tupD)), .no, .no, .no, .no, .no] ?_
    simp [encB, mPar, parS, ev_Call, e1, e2, e3, e4, atK, encK]
  by_cases w_1 : way = 1
  · subst w_1
    obtain ⟨pr, β4, e4, r0, r1, h4⟩ := e_take (n := 9) h3 (by decide) (by decide)
    refine ⟨⟨name, errs, putAt ts it (tn, tm, 1 + pr), ks⟩, β4, ?_, h4, ⟨?_, ?_, ?_⟩, hk2, hk7, fun k hk => ⟨each_putL (hks k hk).1 htd fun c q => q, (hks k hk).2⟩, he0, he2⟩
    · refine ev_runx [.own (encBag β4), .d (encB ⟨name, errs, ts, ks⟩), .d (.str name), .d (.int errs), .d (.tuple (ts.map encT)), .d (.tuple (ks.map encK)), .d (.int 1), .d (.int ia), .d (.int it), .d (.str own), .d (.str group), .d (.tuple (shows.map tupD)), .d (encT (tn, tm, 1 + pr)), .no, .no, .no, .no] ?_
      have cT : cutL [PyData.str tn, .int tm, .int tp] none (some 2) = [PyData.str tn, .int tm] := cut_take (i := 2)
      simp [encB, mPar, parS, ev_Call, e1, e2, e3, e4, atK, atT, encK, encT, cT, cut_take, cut_drop1, mt, l1, l3, putAt]
    · rw [putAt_len hit]; exact ht2
    · rw [putAt_len hit]; exact ht4
    · intro t h
      rcases putAt_mem h with rfl | h
      · exact htd'
      · exact hts.2.2 t h
  have hset : ∀ k', OkKd ts k' → OkBk ⟨name, errs, ts, putAt ks ia k'⟩ := fun k' hk' => ⟨hts, by show 2 ≤ (putAt ks ia k').length; rw [putAt_len hia]; exact hk2, by show (putAt ks ia k').length ≤ 7; rw [putAt_len hia]; exact hk7, fun k hk => by
    rcases putAt_mem hk with rfl | hk
    · exact hk'
    · exact hks k hk, he0, he2⟩
  by_cases w_2 : way = 2 ∧ ks.length < 7
  · obtain ⟨rfl, h7⟩ := w_2
    obtain ⟨x, r, ef⟩ := e_fresh (a0 := .own (encBag β3)) (a1 := .d (encB ⟨name, errs, ts, ks⟩)) (a2 := .d (.str name)) (a3 := .d (.int errs)) (a4 := .d (.tuple (ts.map encT))) (a6 := .d (.int 2)) (a7 := .d (.int ia)) (a8 := .d (.int it)) (a9 := .d (.str own)) (a10 := .d (.str group)) (a11 := .d (.tuple (shows.map tupD))) (a12 := .no) (a13 := .no) (a16 := .no) h7
    obtain ⟨k', β4, e4, h4, hk'⟩ := e_a_kind (name := x) h3 hts
    refine ⟨⟨name, errs, ts, ks.take ia ++ k' :: ks.drop ia⟩, β4, ?_, h4, hts, ?_, ?_, fun k hk => ?_, he0, he2⟩
    · refine ev_runx [.own (encBag β4), .d (encB ⟨name, errs, ts, ks⟩), .d (.str name), .d (.int errs), .d (.tuple (ts.map encT)), .d (.tuple (ks.map encK)), .d (.int 2), .d (.int ia), .d (.int it), .d (.str own), .d (.str group), .d (.tuple (shows.map tupD)), .no, .own (.lst (.str x :: r)), .no, .no, .no] ?_
      have h7' : (ks.length : Int) < 7 := by omega
      simp only [encB] at ef
      simp [encB, mPar, parS, ev_Call, e1, e2, e3, e4, ef, h7', atK, cut_take, cut_drop, mk, l2, l5, encK]
    · show 2 ≤ (ks.take ia ++ k' :: ks.drop ia).length
      rw [List.length_append, List.length_cons, List.length_take, List.length_drop]; omega
    · show (ks.take ia ++ k' :: ks.drop ia).length ≤ 7
      rw [List.length_append, List.length_cons, List.length_take, List.length_drop]; omega
    · rcases List.mem_append.mp hk with hk | hk
      · exact hks k (List.mem_of_mem_take hk)
      · rcases List.mem_cons.mp hk with rfl | hk
        · exact hk'
        · exact hks k (List.mem_of_mem_drop hk)
  have w2' : way = 2 → ¬ (ks.length : Int) < 7 := fun e z => w_2 ⟨e, by omega⟩
  by_cases w_3 : way = 3 ∧ 2 < ks.length
  · obtain ⟨rfl, h7⟩ := w_3
    refine ⟨⟨name, errs, ts, ks.take ia ++ ks.drop (ia + 1)⟩, β3, ?_, h3, hts, ?_, ?_, fun k hk => ?_, he0, he2⟩
    · refine ev_runx [.own (encBag β3), .d (encB ⟨name, errs, ts, ks⟩), .d (.str name), .d (.int errs), .d (.tuple (ts.map encT)), .d (.tuple (ks.map encK)), .d (.int 3), .d (.int ia), .d (.int it), .d (.str own), .d (.str group), .d (.tuple (shows.map tupD)), .no, .no, .no, .no, .no] ?_
      have h7' : (2 : Int) < ks.length := by omega
      simp [encB, mPar, parS, ev_Call, e1, e2, e3, h7', atK, cut_take, cut_drop1, mk, l2, l6, encK]
    · show 2 ≤ (ks.take ia ++ ks.drop (ia + 1)).length
      rw [List.length_append, List.length_take, List.length_drop]; omega
    · show (ks.take ia ++ ks.drop (ia + 1)).length ≤ 7
      rw [List.length_append, List.length_take, List.length_drop]; omega
    · rcases List.mem_append.mp hk with hk | hk
      · exact hks k (List.mem_of_mem_take hk)
      · exact hks k (List.mem_of_mem_drop hk)
  have w3' : way = 3 → ¬ (2 : Int) < ks.length := fun e z => w_3 ⟨e, by omega⟩
  by_cases w_4 : way = 4
  · subst w_4
    obtain ⟨g, β4, hg, h4, e4⟩ := e_some_own (l := [.str "night", .str "yard"]) h3 (by simp) (by simp)
    have hgs : ∃ s, g = PyData.str s ∧ OkG s := by
      simp only [List.mem_cons, List.not_mem_nil, or_false] at hg
      rcases hg with rfl | rfl
      · exact ⟨_, rfl, .inl rfl⟩
      · exact ⟨_, rfl, .inr rfl⟩
    obtain ⟨s, rfl, hsg⟩ := hgs
    refine ⟨⟨name, errs, ts, putAt ks ia (own, s, shows)⟩, β4, ?_, h4, hset _ ⟨hkk.1, hsg⟩⟩
    refine ev_runx [.own (encBag β4), .d (encB ⟨name, errs, ts, ks⟩), .d (.str name), .d (.int errs), .d (.tuple (ts.map encT)), .d (.tuple (ks.map encK)), .d (.int 4), .d (.int ia), .d (.int it), .d (.str own), .d (.str group), .d (.tuple (shows.map tupD)), .no, .no, .no, .no, .no] ?_
    simp [encB, mPar, parS, ev_Call, e1, e2, e3, e4, atK, cut_take, cut_drop1, mk, l2, l4, encK, putAt]
  · obtain ⟨st, β4, e4, h4, q1, q2, q3⟩ := e_states (most := tm) h3 (by omega) (by omega)
    refine ⟨⟨name, errs, ts, putAt ks ia (own, group, putAt shows it st)⟩, β4, ?_, h4, hset _ ⟨each_putR hkk.1 htd ⟨q1, by omega, q3⟩, hkk.2⟩⟩
    have hw : way = 5 ∨ way = 6 ∨ (way = 2 ∧ ¬ (ks.length : Int) < 7) ∨ (way = 3 ∧ ¬ (2 : Int) < ks.length) := by
      have : way = 2 ∨ way = 3 ∨ way = 5 ∨ way = 6 := by omega
      rcases this with e | e | e | e
      · exact .inr (.inr (.inl ⟨e, w2' e⟩))
      · exact .inr (.inr (.inr ⟨e, w3' e⟩))
      · exact .inl e
      · exact .inr (.inl e)
    have atT2 : L2.atI [PyData.str tn, .int tm, .int tp] 1 = some (.int tm) := rfl
    rcases hw with rfl | rfl | ⟨rfl, hw⟩ | ⟨rfl, hw⟩
    · refine ev_runx [.own (encBag β4), .d (encB ⟨name, errs, ts, ks⟩), .d (.str name), .d (.int errs), .d (.tuple (ts.map encT)), .d (.tuple (ks.map encK)), .d (.int 5), .d (.int ia), .d (.int it), .d (.str own), .d (.str group), .d (.tuple (shows.map tupD)), .no, .no, .no, .no, .d (.tuple ((putAt shows it st).map tupD))] ?_
      simp [encB, mPar, parS, ev_Call, e1, e2, e3, e4, atK, atT, encT, cut_take, cut_drop1, mk, ms, l1, l2, l4, l7, encK, putAt]
    · refine ev_runx [.own (encBag β4), .d (encB ⟨name, errs, ts, ks⟩), .d (.str name), .d (.int errs), .d (.tuple (ts.map encT)), .d (.tuple (ks.map encK)), .d (.int 6), .d (.int ia), .d (.int it), .d (.str own), .d (.str group), .d (.tuple (shows.map tupD)), .no, .no, .no, .no, .d (.tuple ((putAt shows it st).map tupD))] ?_
      simp [encB, mPar, parS, ev_Call, e1, e2, e3, e4, atK, atT, encT, cut_take, cut_drop1, mk, ms, l1, l2, l4, l7, encK, putAt]
    · refine ev_runx [.own (encBag β4), .d (encB ⟨name, errs, ts, ks⟩), .d (.str name), .d (.int errs), .d (.tuple (ts.map encT)), .d (.tuple (ks.map encK)), .d (.int 2), .d (.int ia), .d (.int it), .d (.str own), .d (.str group), .d (.tuple (shows.map tupD)), .no, .no, .no, .no, .d (.tuple ((putAt shows it st).map tupD))] ?_
      simp [encB, mPar, parS, ev_Call, e1, e2, e3, e4, hw, atK, atT, encT, cut_take, cut_drop1, mk, ms, l1, l2, l4, l7, encK, putAt]
    · refine ev_runx [.own (encBag β4), .d (encB ⟨name, errs, ts, ks⟩), .d (.str name), .d (.int errs), .d (.tuple (ts.map encT)), .d (.tuple (ks.map encK)), .d (.int 3), .d (.int ia), .d (.int it), .d (.str own), .d (.str group), .d (.tuple (shows.map tupD)), .no, .no, .no, .no, .d (.tuple ((putAt shows it st).map tupD))] ?_
      simp [encB, mPar, parS, ev_Call, e1, e2, e3, e4, hw, atK, atT, encT, cut_take, cut_drop1, mk, ms, l1, l2, l4, l7, encK, putAt]
end K22

set_option Elab.async false
set_option linter.all false
set_option maxRecDepth 100000
set_option maxHeartbeats 4000000
namespace K22
open PySem DL
/-! ### all rows of columns -/
def addCol (found : List (List Int)) (col : List Int) : List (List Int) := found.flatMap fun row => col.map fun one => row ++ [one]
def rowsI (cols : List (List Int)) : List (List Int) := cols.foldl addCol [[]]
def encC (c : List Int) : Dat := .list (c.map PyData.int)
theorem flatMap_len {found : List (List Int)} {col : List Int} : (addCol found col).length = found.length * col.length := by
  unfold addCol
  induction found with
  | nil => simp
  | cons r f ih => rw [List.flatMap_cons, List.length_append, ih, List.length_map, List.length_cons, Nat.add_mul]; omega
theorem e_row {s3 : Slot} {cs fd : Dat} {row col : List Int} {l : List Dat} (h : row.length ≤ 1000) (hc : col.length ≤ 1000) :
    mLc (mSeqI (mVar 2)) (setS 5) mYes (mBin gAdd (mVar 4) (mTup (mDc (mVar 5) mD0))) [5] [.d cs, .d fd, .d (encC col), s3, .d (tupD row), .no] = some (.own (.lst ((col.map fun one => row ++ [one]).map tupD)), [.d cs, .d fd, .d (encC col), s3, .d (tupD row), .no]) := by
  have h1 : row.length ≤ 999999 := by omega
  have e := lc_pure (mi := mSeqI (mVar 2)) (g := setS 5) (mt := mYes) (me := mBin gAdd (mVar 4) (mTup (mDc (mVar 5) mD0))) (vs := [5]) (Γ := [.d cs, .d fd, .d (encC col), s3, .d (tupD row), .no]) (ts := col) PyData.int (fun one => some (tupD (row ++ [one])))
    (by simp [encC]) rfl (fun t _ => by simp [lcStep, tupD, h1]) (by show _ ≤ 1000000; omega)
  rw [e]
  simp [List.filterMap_eq_map', List.map_map, Function.comp_def]
def InL (cs : Dat) (col : List Int) (fd : List (List Int)) (left : List (List Int)) (longer : List (List Int)) (Γ : DL.Env) : Prop :=
  (∃ s4, Γ = [.d cs, .d (.list (fd.map tupD)), .d (encC col), .own (.lst (longer.map tupD)), s4, .no]) ∧ longer.length + left.length * col.length ≤ 100000 ∧ col.length ≤ 1000 ∧ ∀ r ∈ left, r.length ≤ 1000
theorem e_inner {cs : Dat} {col : List Int} {fd longer : List (List Int)} {Γ : DL.Env} (h : InL cs col fd fd longer Γ) :
    ∃ Γ', forL (setS 4) (mSet (setS 3) (mBin gAdd (mVar 3) (mLc (mSeqI (mVar 2)) (setS 5) mYes (mBin gAdd (mVar 4) (mTup (mDc (mVar 5) mD0))) [5]))) (fd.map tupD) Γ = some (.nx, Γ') ∧
      InL cs col fd [] (fd.foldl (fun s row => s ++ col.map fun one => row ++ [one]) longer) Γ' := by
  refine forL_rem tupD (InL cs col fd) (fun s row => s ++ col.map fun one => row ++ [one]) ?_ h
  rintro row r s Γ ⟨⟨s4, rfl⟩, h1, h2, h3⟩
  have e := e_row (s3 := .own (.lst (s.map tupD))) (cs := cs) (fd := .list (fd.map tupD)) (row := row) (col := col) (l := []) (h3 row (by simp)) h2
  rw [List.length_cons, Nat.add_mul, Nat.one_mul] at h1
  have h5 : s.length + col.length ≤ 1000000 := by omega
  refine ⟨_, ?_, ⟨⟨.d (tupD row), rfl⟩, ?_, h2, fun x hx => h3 x (List.mem_cons_of_mem _ hx)⟩⟩
  · simp only [List.map_map, Function.comp_def] at e
    simp [forStep, e, h5, List.map_map, Function.comp_def]
  · rw [List.length_append, List.length_map]
    omega
theorem foldl_app {col : List Int} : ∀ {fd longer : List (List Int)}, fd.foldl (fun s row => s ++ col.map fun one => row ++ [one]) longer = longer ++ addCol fd col
  | [], longer => by simp [addCol]
  | r :: fd, longer => by rw [List.foldl_cons, foldl_app]; simp [addCol]
/-- found, held or told -/
def InR (cs : Dat) (left : List (List Int)) (found : List (List Int)) (Γ : DL.Env) : Prop :=
  (∃ s2 s3 s4, Γ = [.d cs, .own (.lst (found.map tupD)), s2, s3, s4, .no] ∨ Γ = [.d cs, .d (.list (found.map tupD)), s2, s3, s4, .no]) ∧ found.length * 3 ^ left.length ≤ 100 ∧ (∀ c ∈ left, c.length ≤ 3) ∧ ∀ r ∈ found, r.length + left.length ≤ 4
theorem e_outer {cs : Dat} {cols found : List (List Int)} {Γ : DL.Env} (h : InR cs cols found Γ) :
    ∃ Γ', forL (setS 2) (mSeq (mSet (setS 3) (mLst mD0)) (mSeq (mFor (mSeqI (mVar 1)) (setS 4) (mSet (setS 3) (mBin gAdd (mVar 3) (mLc (mSeqI (mVar 2)) (setS 5) mYes (mBin gAdd (mVar 4) (mTup (mDc (mVar 5) mD0))) [5])))) (mSet (setS 1) (mVar 3)))) (cols.map encC) Γ = some (.nx, Γ') ∧
      InR cs [] (cols.foldl addCol found) Γ' := by
  refine forL_rem encC (InR cs) addCol ?_ h
  rintro col r found Γ ⟨⟨s2, s3, s4, hΓ⟩, h1, h2, h3⟩
  have hc := h2 col (by simp)
  have hpow : found.length * 3 ≤ 100 := by
    have h4 : found.length * 3 ^ (col :: r).length = found.length * 3 * 3 ^ r.length := by rw [List.length_cons, Nat.pow_succ, Nat.mul_assoc, Nat.mul_comm (3 ^ r.length)]
    have h5 : 1 ≤ 3 ^ r.length := Nat.one_le_pow _ _ (by decide)
    have h6 : found.length * 3 * 1 ≤ found.length * 3 * 3 ^ r.length := Nat.mul_le_mul_left _ h5
    omega
  have hin : InL cs col found found [] [.d cs, .d (.list (found.map tupD)), .d (encC col), .own (.lst []), s4, .no] := ⟨⟨s4, rfl⟩, by
    have : found.length * col.length ≤ found.length * 3 := Nat.mul_le_mul_left _ hc
    simp only [List.length_nil]
    omega, by omega, fun r hr => by have := h3 r hr; omega⟩
  obtain ⟨Γ1, e1, ⟨⟨s4', rfl⟩, _⟩⟩ := e_inner hin
  rw [foldl_app, List.nil_append] at e1
  refine ⟨[.d cs, .d (.list ((addCol found col).map tupD)), .d (encC col), .d (.list ((addCol found col).map tupD)), s4', .no], ?_, ⟨⟨_, _, _, .inr rfl⟩, ?_, fun c hc => h2 c (List.mem_cons_of_mem _ hc), ?_⟩⟩
  · rcases hΓ with rfl | rfl
    · simp [forStep, e1]
    · simp [forStep, e1]
  · rw [flatMap_len]
    have h4 : found.length * 3 ^ (col :: r).length = found.length * 3 * 3 ^ r.length := by rw [List.length_cons, Nat.pow_succ, Nat.mul_assoc, Nat.mul_comm (3 ^ r.length)]
    have h5 : found.length * col.length * 3 ^ r.length ≤ found.length * 3 * 3 ^ r.length := Nat.mul_le_mul_right _ (Nat.mul_le_mul_left _ hc)
    omega
  · intro x hx
    unfold addCol at hx
    obtain ⟨row, hr, hx⟩ := List.mem_flatMap.mp hx
    obtain ⟨one, _, rfl⟩ := List.mem_map.mp hx
    have := h3 row hr
    rw [List.length_cons] at this
    rw [List.length_append, List.length_singleton]
    omega
theorem e_rows_of {cols : List (List Int)} (h : cols.length ≤ 4) (h2 : ∀ c ∈ cols, c.length ≤ 3) :
    ∃ r, F__law_rows_of [.own (.lst (cols.map encC))] = some (r, [.d (.list (cols.map encC))]) ∧ (r = .own (.lst ((rowsI cols).map tupD)) ∨ r = .d (.list ((rowsI cols).map tupD))) := by
  have hp : 3 ^ cols.length ≤ 3 ^ 4 := Nat.pow_le_pow_right (by decide) h
  obtain ⟨Γ', e, ⟨⟨s2, s3, s4, hΓ⟩, _⟩⟩ := e_outer (cs := .list (cols.map encC)) (cols := cols) (found := [[]]) (Γ := [.d (.list (cols.map encC)), .own (.lst [.tuple []]), .no, .no, .no, .no])
    ⟨⟨.no, .no, .no, .inl rfl⟩, by simp only [List.length_singleton, Nat.one_mul]; omega, h2, fun r hr => by rw [List.mem_singleton.mp hr]; simpa using h⟩
  rcases hΓ with rfl | rfl
  · refine ⟨_, ev_runx [.d (.list (cols.map encC)), .no, s2, s3, s4, .no] ?_, .inl rfl⟩
    simp [e, rowsI]
  · refine ⟨_, ev_runx [.d (.list (cols.map encC)), .d (.list ((rowsI cols).map tupD)), s2, s3, s4, .no] ?_, .inr rfl⟩
    simp [e, rowsI]
theorem rngI_le {n : Int} (h : n ≤ 3) : (rngI n).length ≤ 3 := by rw [rngI_len]; omega
/-- all whole readings -/
def wholesI (b : Bk) : List (List Int) := rowsI (b.traits.map fun t => rngI (t.2.1 + 1))
theorem e_wholes {b : Bk} (hb : OkTs b.traits) : ∃ r, F__law_wholes [.d (encB b)] = some (r, [.d (encB b)]) ∧ (r = .own (.lst ((wholesI b).map tupD)) ∨ r = .d (.list ((wholesI b).map tupD))) := by
  obtain ⟨h2, h4, hts⟩ := hb
  have e := lc_pure (mi := mSeqI (mBin gIx (mVar 0) (mC (.int 2)))) (g := setT 3 (setC (setS 1) (setC (setS 2) (setC (setS 3) setN)))) (mt := mYes) (me := mUn gListRg (mBin gAdd (mVar 2) (mC (.int 1)))) (vs := [1, 2, 3])
    (Γ := [.d (encB b), .no, .no, .no]) (ts := b.traits) encT (fun t => some (encC (rngI (t.2.1 + 1)))) (by simp [encB]) rfl (fun t ht => by
      have q := hts t ht
      have h1 : 0 ≤ t.2.1 + 1 ∧ t.2.1 + 1 ≤ 1000000 := by omega
      have e2 : rangeD (t.2.1 + 1) = (rngI (t.2.1 + 1)).map PyData.int := by unfold rangeD rngI; rw [List.map_map]; rfl
      simp [lcStep, encT, gListRg, h1, e2, encC]) (by show _ ≤ 1000000; omega)
  have ef : b.traits.filterMap (fun t => some (encC (rngI (t.2.1 + 1)))) = (b.traits.map fun t => rngI (t.2.1 + 1)).map encC := by
    rw [List.filterMap_eq_map', List.map_map]
    rfl
  rw [ef] at e
  obtain ⟨r, er, hr⟩ := e_rows_of (cols := b.traits.map fun t => rngI (t.2.1 + 1)) (by simpa using h4) (fun c hc => by
    obtain ⟨t, ht, rfl⟩ := List.mem_map.mp hc
    have q := hts t ht
    exact rngI_le (by omega))
  have hk : keepable r = true := by rcases hr with rfl | rfl <;> rfl
  refine ⟨r, ev_runx [.d (encB b), .no, .no, .no] ?_ hk, hr⟩
  rcases hr with rfl | rfl
  · simp only [List.map_map] at e er
    simp [ev_Call, e, er]
  · simp only [List.map_map] at e er
    simp [ev_Call, e, er]
end K22

set_option Elab.async false
set_option linter.all false
set_option maxRecDepth 100000
set_option maxHeartbeats 4000000
namespace K22
open PySem DL
def InA (b : Bk) (left : List (Str × Int × Int)) (found : List (List Int)) (Γ : DL.Env) : Prop :=
  (∃ s2 s3 s4, Γ = [.d (encB b), .own (.lst (found.map tupD)), s2, s3, s4, .no, .no]) ∧ found.length * 3 ^ left.length ≤ 100 ∧ (∀ t ∈ left, 1 ≤ t.2.1 ∧ t.2.1 ≤ 2) ∧ ∀ r ∈ found, r.length + left.length ≤ 4
theorem e_all {b : Bk} (hb : OkTs b.traits) : F_all_readings [.d (encB b)] = some (.own (.lst ((wholesI b).map tupD)), [.d (encB b)]) := by
  obtain ⟨h2, h4, hts⟩ := hb
  have hp : 3 ^ b.traits.length ≤ 3 ^ 4 := Nat.pow_le_pow_right (by decide) h4
  obtain ⟨Γ', e, ⟨⟨s2, s3, s4, rfl⟩, _⟩⟩ := forL_rem (g := setT 3 (setC (setS 2) (setC (setS 3) (setC (setS 4) setN)))) (mb := mSet (setS 1) (mLc2 (mSeqI (mVar 1)) (setS 5) (mRange1 (mBin gAdd (mVar 3) (mC (.int 1)))) (setS 6) (mTup (mDs (mVar 5) (mDc (mVar 6) mD0))) [5, 6] [6])) encT (InA b) (fun s t => addCol s (rngI (t.2.1 + 1))) (by
    rintro ⟨tn, tm, tp⟩ r found Γ ⟨⟨s2, s3, s4, rfl⟩, h1, h2, h3⟩
    have htm := h2 (tn, tm, tp) (by simp)
    simp only at htm
    have hpow : found.length * 3 ^ ((tn, tm, tp) :: r).length = found.length * 3 * 3 ^ r.length := by rw [List.length_cons, Nat.pow_succ, Nat.mul_assoc, Nat.mul_comm (3 ^ r.length)]
    have h5 : 1 ≤ 3 ^ r.length := Nat.one_le_pow _ _ (by decide)
    have h6 : found.length * 3 * 1 ≤ found.length * 3 * 3 ^ r.length := Nat.mul_le_mul_left _ h5
    have hc : (rngI (tm + 1)).length ≤ 3 := rngI_le (by omega)
    have h7 : found.length * (rngI (tm + 1)).length ≤ found.length * 3 := Nat.mul_le_mul_left _ hc
    have e := lc2_pure (mi := mSeqI (mVar 1)) (g := setS 5) (mi1 := mRange1 (mBin gAdd (mVar 3) (mC (.int 1)))) (g1 := setS 6) (me := mTup (mDs (mVar 5) (mDc (mVar 6) mD0))) (vs := [5, 6]) (vs1 := [6])
      (Γ := [.d (encB b), .own (.lst (found.map tupD)), .d (.str tn), .d (.int tm), .d (.int tp), .no, .no]) (Γ0 := [.d (encB b), .d (.list (found.map tupD)), .d (.str tn), .d (.int tm), .d (.int tp), .no, .no]) (ts := found) tupD PyData.int (fun _ => rngI (tm + 1)) (fun row one => tupD (row ++ [one]))
      (by simp) rfl (fun row hr => ⟨[.d (encB b), .d (.list (found.map tupD)), .d (.str tn), .d (.int tm), .d (.int tp), .d (tupD row), .no], [.d (encB b), .d (.list (found.map tupD)), .d (.str tn), .d (.int tm), .d (.int tp), .d (tupD row), .no], by simp, by
        have : -4611686018427387904 ≤ tm + 1 ∧ tm + 1 < 4611686018427387904 := by omega
        simp [rngD_eq, this], fun u _ => by
        have h9 := h3 row hr
        have h8 : row.length ≤ 1000000 := by omega
        have h10 : row.length ≤ 999999 := by omega
        simp [lcStep, tupD, h8, h10], by simp⟩) (by
        have : (found.flatMap fun row => (rngI (tm + 1)).map fun one => tupD (row ++ [one])).length = found.length * (rngI (tm + 1)).length := by
          clear h1 h3 h7 h6 hpow
          induction found with
          | nil => simp
          | cons r f ih => rw [List.flatMap_cons, List.length_append, ih, List.length_map, List.length_cons, Nat.add_mul]; omega
        rw [this]
        show _ ≤ 1000000
        omega)
    have ef : (found.flatMap fun row => (rngI (tm + 1)).map fun one => tupD (row ++ [one])) = (addCol found (rngI (tm + 1))).map tupD := by
      unfold addCol
      rw [List.map_flatMap]
      simp only [List.map_map, Function.comp_def]
    rw [ef] at e
    refine ⟨[.d (encB b), .own (.lst ((addCol found (rngI (tm + 1))).map tupD)), .d (.str tn), .d (.int tm), .d (.int tp), .no, .no], by simp [forStep, encT, e], ⟨_, _, _, rfl⟩, ?_, fun t ht => h2 t (List.mem_cons_of_mem _ ht), fun x hx => ?_⟩
    · rw [flatMap_len]
      have h8 : found.length * (rngI (tm + 1)).length * 3 ^ r.length ≤ found.length * 3 * 3 ^ r.length := Nat.mul_le_mul_right _ h7
      show found.length * (rngI (tm + 1)).length * 3 ^ r.length ≤ 100
      omega
    · unfold addCol at hx
      obtain ⟨row, hr, hx⟩ := List.mem_flatMap.mp hx
      obtain ⟨one, _, rfl⟩ := List.mem_map.mp hx
      have := h3 row hr
      rw [List.length_cons] at this
      rw [List.length_append, List.length_singleton]
      omega) (ts := b.traits) (s := [[]]) (Γ := [.d (encB b), .own (.lst [.tuple []]), .no, .no, .no, .no, .no]) ⟨⟨.no, .no, .no, rfl⟩, by simp only [List.length_singleton, Nat.one_mul]; omega, hts, fun r hr => by rw [List.mem_singleton.mp hr]; simpa using h4⟩
  have ew : b.traits.foldl (fun s t => addCol s (rngI (t.2.1 + 1))) [[]] = wholesI b := by
    unfold wholesI rowsI
    rw [List.foldl_map]
  rw [ew] at e
  refine ev_runx [.d (encB b), .no, s2, s3, s4, .no, .no] ?_
  have hz : (PyData.tuple [PyData.str b.name, PyData.int b.errs, PyData.tuple (b.traits.map encT), PyData.tuple (b.kinds.map encK)]) = encB b := rfl
  have hx : (mSeqI (mBin gIx (mVar 0) (mC (PyData.int 2)))) [.d (encB b), .own (.lst [.tuple []]), .no, .no, .no, .no, .no] = some (b.traits.map encT, [.d (encB b), .own (.lst [.tuple []]), .no, .no, .no, .no, .no]) := by simp [encB]
  simp [-ev_SeqI, hx, e]
end K22

set_option Elab.async false
set_option linter.all false
set_option maxRecDepth 100000
set_option maxHeartbeats 4000000
namespace K22
open PySem DL
mutual
/-- data that may be held against each other -/
def okA : Dat → Bool
  | .str x => SeqAt.shaped (.str x)
  | .list l => okAll l
  | .tuple l => okAll l
  | .dict _ => false
  | _ => true
def okAll : List Dat → Bool
  | [] => true
  | d :: r => okA d && okAll r
end
mutual
def szA : Dat → Nat
  | .list l => szAll l + 1
  | .tuple l => szAll l + 1
  | _ => 1
def szAll : List Dat → Nat
  | [] => 0
  | d :: r => szA d + szAll r
end
theorem szAll_app : ∀ {l m : List Dat}, szAll (l ++ m) = szAll l + szAll m
  | [], m => by simp [szAll]
  | d :: r, m => by rw [List.cons_append, szAll, szAll, szAll_app]; omega
theorem okAll_app : ∀ {l m : List Dat}, okAll (l ++ m) = (okAll l && okAll m)
  | [], m => by simp [okAll]
  | d :: r, m => by rw [List.cons_append, okAll, okAll, okAll_app, Bool.and_assoc]
theorem len_le_sz : ∀ {l : List Dat}, l.length ≤ szAll l
  | [] => Nat.zero_le _
  | d :: r => by
    have := len_le_sz (l := r)
    have h : 1 ≤ szA d := by cases d <;> simp [szA]
    rw [szAll, List.length_cons]
    omega
def dup (d : Dat) : Dat := .tuple [d, d]
theorem dup_u (d : Dat) : dup d = .tuple [d, d] := rfl
theorem zip_self (l : List Dat) : zipL l l = l.map dup := by
  induction l with
  | nil => rfl
  | cons d r ih => simp only [zipL, List.zip_cons_cons, List.map_cons] at ih ⊢; rw [ih]; rfl
abbrev condA : MT := mB (mBin gLt (mVar 3) (mUn (gSc1 lenD) (mVar 2)))
abbrev bodyA : MS := mSeq (mSet (setT 2 (setC (setS 4) (setC (setS 5) setN))) (mBin gIx (mVar 2) (mVar 3))) (mSeq (mAug 3 (fun i j => i + j) (mC (.int 1))) (mSeq (mIfS (mOrT (mB (mBin gNe (mIsi .bool (mVar 4)) (mIsi .bool (mVar 5)))) (mB (mBin gNe (mIsi .str (mVar 4)) (mIsi .str (mVar 5))))) (mRet 2 (mC (.bool false))) mNext) (mSeq (mIfS (mB (mBin gNe (mIsi2 .tup .lst (mVar 4)) (mIsi2 .tup .lst (mVar 5)))) (mRet 2 (mC (.bool false))) mNext) (mIfS (mTru (mIsi2 .tup .lst (mVar 4))) (mSeq (mIfS (mOrT (mB (mBin gNe (mIsi .tup (mVar 4)) (mIsi .tup (mVar 5)))) (mB (mBin gNe (mUn (gSc1 lenD) (mVar 4)) (mUn (gSc1 lenD) (mVar 5))))) (mRet 2 (mC (.bool false))) mNext) (mDrop (mExt 2 (mListZip (mVar 4) (mVar 5))))) (mIfS (mB (mBin gNe (mVar 4) (mVar 5))) (mRet 2 (mC (.bool false))) mNext)))))
theorem ne_self {d : Dat} (h : SeqAt.shaped d = true) (e : PyData.eqv d d = true) : neD d d = some (.bool false) := by
  unfold neD
  rw [if_pos (by rw [h]; rfl), e]
  rfl
@[simp] theorem ne_bb (b : Bool) : neD (.bool b) (.bool b) = some (.bool false) := ne_self (by simp [SeqAt.shaped, PyData.canLay0, PyData.depth]) (by cases b <;> rfl)
@[simp] theorem ne_ii (i : Int) : neD (.int i) (.int i) = some (.bool false) := ne_self (by simp [SeqAt.shaped, PyData.canLay0, PyData.depth]) (by rw [PyData.eqv]; simp)
@[simp] theorem ne_nn : neD .none .none = some (.bool false) := ne_self (by simp [SeqAt.shaped, PyData.canLay0, PyData.depth]) rfl
@[simp] theorem ev_Aug (i : Nat) (g : Int → Int → Int) (m : M) (Γ : DL.Env) : mAug i g m Γ = match Γ[i]? with
  | some (.d (.int n)) => (m Γ).bind fun p => match p.1 with
    | .d (.int z) => some (.nx, p.2.set i (.d (.int (g n z))))
    | _ => none
  | _ => none := rfl
@[simp] theorem ev_LZ (a b : M) (Γ : DL.Env) : mListZip a b Γ = (a Γ).bind fun p => (settle p.2 p.1).bind fun p' => (b p'.2).bind fun q => (settle q.2 q.1).bind fun q' => (seqOf p'.1).bind fun l1 => (seqOf q'.1).bind fun l2 =>
  if l1.1 = l2.1 then some (.own (.lst (zipL l1.2 l2.2)), q'.2) else none := rfl
theorem stepA {a b s4 s5 : DL.Slot} {pre rest : List Dat} {d : Dat} (hd : okA d = true) (hz : pre.length + szAll (d :: rest) ≤ 900000) :
    ∃ more, bodyA [a, b, .own (.lst ((pre ++ d :: rest).map dup)), .d (.int pre.length), s4, s5] = some (.nx, [a, b, .own (.lst ((pre ++ d :: (rest ++ more)).map dup)), .d (.int (pre.length + 1)), .d d, .d d]) ∧ okAll more = true ∧ szAll more + 1 = szA d := by
  have hat : L2.atI (pre.map dup ++ .tuple [d, d] :: rest.map dup) (pre.length : Int) = some (.tuple [d, d]) := by rw [← dup_u]; exact atI_nat (by simp)
  simp only [szAll] at hz
  have hr := len_le_sz (l := rest)
  cases d with
  | none => exact ⟨[], by simp [hat, dup_u, isTy, truD], rfl, by simp [szAll, szA]⟩
  | bool x => exact ⟨[], by simp [hat, dup_u, isTy, truD], rfl, by simp [szAll, szA]⟩
  | int x => exact ⟨[], by simp [hat, dup_u, isTy, truD], rfl, by simp [szAll, szA]⟩
  | str x =>
    have hs : neD (.str x) (.str x) = some (.bool false) := ne_self hd (by rw [PyData.eqv]; simp)
    exact ⟨[], by simp [hat, dup_u, isTy, truD, hs], rfl, by simp [szAll, szA]⟩
  | list l =>
    have hl := len_le_sz (l := l)
    simp only [szA] at hz
    have h9 : pre.length + (rest.length + 1) + l.length ≤ 1000000 := by omega
    refine ⟨l, ?_, hd, by simp [szA]⟩
    simp [hat, dup_u, isTy, truD, zip_self, h9]
  | tuple l =>
    have hl := len_le_sz (l := l)
    simp only [szA] at hz
    have h9 : pre.length + (rest.length + 1) + l.length ≤ 1000000 := by omega
    refine ⟨l, ?_, hd, by simp [szA]⟩
    simp [hat, dup_u, isTy, truD, zip_self, h9]
  | dict l => cases hd

theorem whL_nx {mt : MT} {m : MS} {n : Nat} {Γ Γ1 : DL.Env} (h : mt Γ = some (true, Γ)) (h2 : m Γ = some (.nx, Γ1)) : whL mt m (n + 1) Γ = whL mt m n Γ1 := by
  rw [whL, h]
  simp [h2]
theorem whL_no {mt : MT} {m : MS} {n : Nat} {Γ : DL.Env} (h : mt Γ = some (false, Γ)) : whL mt m (n + 1) Γ = some (.nx, Γ) := by
  rw [whL, h]
  simp
theorem loopA {a b : DL.Slot} : ∀ (n : Nat) {pre rest : List Dat} {s4 s5 : DL.Slot}, okAll rest = true → pre.length + szAll rest ≤ 900000 → szAll rest < n →
    ∃ x y s4' s5', whL condA bodyA n [a, b, .own (.lst ((pre ++ rest).map dup)), .d (.int pre.length), s4, s5] = some (.nx, [a, b, .own (.lst x), .d (.int y), s4', s5'])
  | 0, _, _, _, _, _, _, h => absurd h (Nat.not_lt_zero _)
  | n + 1, pre, [], s4, s5, _, _, _ => ⟨pre.map dup, pre.length, s4, s5, by rw [whL_no (by simp [condA, truD])]; simp⟩
  | n + 1, pre, d :: rest, s4, s5, ho, hz, hn => by
    rw [okAll, Bool.and_eq_true] at ho
    obtain ⟨more, h1, h2, h3⟩ := stepA (a := a) (b := b) (s4 := s4) (s5 := s5) ho.1 hz
    rw [szAll] at hz hn
    obtain ⟨x, y, s4', s5', h⟩ := loopA (a := a) (b := b) n (pre := pre ++ [d]) (rest := rest ++ more) (s4 := .d d) (s5 := .d d) (by rw [okAll_app, ho.2, h2]; rfl) (by rw [szAll_app, List.length_append, List.length_singleton]; omega) (by rw [szAll_app]; omega)
    refine ⟨x, y, s4', s5', ?_⟩
    rw [whL_nx (by simp [condA, truD]; omega) h1]
    rw [List.append_assoc] at h
    simpa using h
/-- a slot that holds this data -/
def IsS (s : DL.Slot) (d : Dat) : Prop := s = .d d ∨ ∃ o, s = .own o ∧ o.dat = d
theorem IsS.d {d : Dat} : IsS (.d d) d := .inl rfl
theorem IsS.lst {l : List Dat} : IsS (.own (.lst l)) (.list l) := .inr ⟨_, rfl, rfl⟩
theorem e_alike {s t : DL.Slot} {d : Dat} (hs : IsS s d) (ht : IsS t d) (ho : okA d = true) (hz : szA d ≤ 800000) : F__law_alike [s, t] = some (.d (.bool true), [.d d, .d d]) := by
  obtain ⟨x, y, s4, s5, h⟩ := loopA (a := .d d) (b := .d d) fuel (pre := []) (rest := [d]) (s4 := .no) (s5 := .no) (by simp [okAll, ho]) (by simp [szAll]; omega) (by simp [szAll, fuel]; omega)
  simp only [List.nil_append, List.map_cons, List.map_nil, dup_u, List.length_nil] at h
  have hh : ∀ s t, IsS s d → IsS t d → (mPar [2, 3] (mAc (mLst (mDc (mTup (mDc (mVar 0) (mDc (mVar 1) mD0))) mD0)) (mAc (mC (.int 0)) mA0))) ([s, t] ++ List.replicate 4 .no) = some (.nx, [.d d, .d d, .own (.lst [.tuple [d, d]]), .d (.int 0), .no, .no]) := by
    rintro s t (rfl | ⟨o, rfl, rfl⟩) (rfl | ⟨o', rfl, h'⟩)
    · simp [mPar, parS]
    · subst h'; simp [mPar, parS]
    · simp [mPar, parS]
    · simp [mPar, parS, h']
  unfold F__law_alike
  refine ev_runx [.d d, .d d, .own (.lst x), .d (.int y), s4, s5] ?_
  rw [ev_Seq, hh s t hs ht]
  simp only [Option.bind_some, ev_Seq]
  erw [h]
  simp
end K22

set_option Elab.async false
set_option linter.all false
set_option maxRecDepth 100000
set_option maxHeartbeats 4000000
namespace K22
open PySem DL
/-- readings of a book -/
def OkR (b : Bk) (r : List Int) : Prop := PySem.W.EachIs (fun t x => -1 ≤ x ∧ x ≤ t.2.1) b.traits r
@[simp] theorem ev_Zip (ma mb : M) (Γ : DL.Env) : mZip ma mb Γ = (ma Γ).bind fun p => (settle p.2 p.1).bind fun p' => (mb p'.2).bind fun q => (settle q.2 q.1).bind fun q' => (seqOf p'.1).bind fun l1 => (seqOf q'.1).bind fun l2 =>
  if l1.1 = l2.1 then some (zipL l1.2 l2.2, q'.2) else none := rfl
def encE (q : Int × Nat) : Dat := .tuple [.int q.2, .int q.1]
theorem enumL_ints (r : List Int) : enumL (r.map PyData.int) = r.zipIdx.map encE := by
  unfold enumL
  rw [List.zipIdx_map, List.map_map]
  rfl
@[simp] theorem ev_seqr (r : List Int) : seqOf (tupD r) = some (false, r.map PyData.int) := rfl
def pos (q : Int × Nat) : Int := q.2
def idxs (p : Int × Nat → Bool) (r : List Int) : List Int := (r.zipIdx.filter p).map pos
theorem fm_filter {α : Type} (p : α → Bool) (f : α → Dat) (l : List α) : l.filterMap (fun x => if p x then some (f x) else none) = (l.filter p).map f := by
  induction l with
  | nil => rfl
  | cons x r ih => by_cases h : p x <;> simp [h, ih]
theorem fm_idxs (p : Int × Nat → Bool) (r : List Int) : r.zipIdx.filterMap (fun q => if p q then some (.int (q.2 : Int)) else none) = (idxs p r).map PyData.int := by
  rw [fm_filter p (fun q => PyData.int (q.2 : Int))]
  unfold idxs
  rw [List.map_map]
  rfl
theorem e_shows {b : Bk} {k j : Nat} {kd : Str × Str × List (List Int)} {l : List Int} (h1 : b.kinds[k]? = some kd) (h2 : kd.2.2[j]? = some l) :
    F_shows_of [.d (encB b), .d (.int k), .d (.int j)] = some (.d (tupD l), [.d (encB b), .d (.int k), .d (.int j)]) := by
  have a1 : L2.atI (b.kinds.map encK) (k : Int) = some (encK kd) := atI_nat (by rw [List.getElem?_map, h1]; rfl)
  have a2 : L2.atI (kd.2.2.map tupD) (j : Int) = some (tupD l) := atI_nat (by rw [List.getElem?_map, h2]; rfl)
  refine ev_runx [.d (encB b), .d (.int k), .d (.int j)] ?_
  simp [encB, encK, a1, a2]
theorem flat_rep {α : Type} (x : α) (n : Nat) : (List.replicate n [x]).flatten = List.replicate n x := by
  induction n with
  | zero => rfl
  | succ n ih => rw [List.replicate_succ, List.flatten_cons, ih]; rfl
theorem e_nothing {b : Bk} (hb : OkTs b.traits) : F_nothing_read [.d (encB b)] = some (.d (tupD (List.replicate b.traits.length (-1))), [.d (encB b)]) := by
  obtain ⟨h2, h4, _⟩ := hb
  have h5 : (2 : Int) ≤ b.traits.length ∧ (b.traits.length : Int) ≤ 1000 := by omega
  refine ev_runx [.d (encB b)] ?_
  simp [encB, h5, flat_rep, tupD, h2]
theorem e_lnothing {b : Bk} (hb : OkTs b.traits) : F__law_nothing [.d (encB b)] = some (.d (tupD (List.replicate b.traits.length (-1))), [.d (encB b)]) := by
  obtain ⟨h2, h4, _⟩ := hb
  have h5 : (2 : Int) ≤ b.traits.length ∧ (b.traits.length : Int) ≤ 1000 := by omega
  refine ev_runx [.d (encB b)] ?_
  simp [encB, h5, flat_rep, tupD, h2]
theorem flat_ints (r : List Int) : (r.map PyData.int).all flatD = true := by
  rw [List.all_eq_true]
  intro x hx
  obtain ⟨i, _, rfl⟩ := List.mem_map.mp hx
  rfl
@[simp] theorem ev_inI (neg : Bool) (x : Int) (r : List Int) : inD neg (.int x) (tupD r) = some (.bool (if neg then !r.contains x else r.contains x)) := by
  have e : (r.map PyData.int).any (fun z => PyData.eqv z (.int x)) = r.contains x := by
    induction r with
    | nil => rfl
    | cons y r ih =>
      rw [List.map_cons, List.any_cons, ih, List.contains_cons, PyData.eqv]
      congr 1
      by_cases h : y = x
      · subst h; simp
      · simp [h, Ne.symm h, BEq.comm (a := x)]
  unfold inD tupD
  simp only [ev_seqt, Option.bind_some]
  rw [if_pos (by rw [flat_ints]; rfl), e]
theorem e_whole {r : List Int} : F_is_whole [.d (tupD r)] = some (.d (.bool (!r.contains (-1))), [.d (tupD r)]) := by
  refine ev_runx [.d (tupD r)] ?_
  simp [gNin]
theorem e_read {r : List Int} (hl : r.length ≤ 1000) : F_read_traits [.d (tupD r)] = some (.d (tupD (idxs (fun q => q.1 != -1) r)), [.d (tupD r)]) := by
  have e := lc_pure (mi := mEnum (mVar 0)) (g := setT 2 (setC (setS 1) (setC (setS 2) setN))) (mt := mB (mBin gNe (mVar 2) (mC (.int (-1))))) (me := mVar 1) (vs := [1, 2]) (Γ := [.d (tupD r), .no, .no]) (ts := r.zipIdx) encE (fun q => if q.1 != -1 then some (.int (q.2 : Int)) else none) (by simp [tupD, enumL_ints]) rfl (by
    rintro ⟨x, i⟩ _
    by_cases h : x = -1 <;> simp [lcStep, encE, h, gNe]) (by rw [List.length_zipIdx]; show _ ≤ 1000000; omega)
  rw [fm_idxs] at e
  refine ev_runx [.d (tupD r), .no, .no] ?_
  simp [e]
  rfl
theorem e_unreadt {r : List Int} (hl : r.length ≤ 1000) : F_unread_traits [.d (tupD r)] = some (.d (tupD (idxs (fun q => q.1 == -1) r)), [.d (tupD r)]) := by
  have e := lc_pure (mi := mEnum (mVar 0)) (g := setT 2 (setC (setS 1) (setC (setS 2) setN))) (mt := mB (mBin gEq (mVar 2) (mC (.int (-1))))) (me := mVar 1) (vs := [1, 2]) (Γ := [.d (tupD r), .no, .no]) (ts := r.zipIdx) encE (fun q => if q.1 == -1 then some (.int (q.2 : Int)) else none) (by simp [tupD, enumL_ints]) rfl (by
    rintro ⟨x, i⟩ _
    by_cases h : x = -1 <;> simp [lcStep, encE, h, gEq]) (by rw [List.length_zipIdx]; show _ ≤ 1000000; omega)
  rw [fm_idxs] at e
  refine ev_runx [.d (tupD r), .no, .no] ?_
  simp [e]
  rfl
theorem e_unread {r : List Int} (hl : r.length ≤ 1000) : F__law_unread [.d (tupD r)] = some (.own (.lst ((idxs (fun q => decide (q.1 < 0)) r).map PyData.int)), [.d (tupD r)]) := by
  have e := lc_pure (mi := mEnum (mVar 0)) (g := setT 2 (setC (setS 1) (setC (setS 2) setN))) (mt := mB (mBin gLt (mVar 2) (mC (.int 0)))) (me := mVar 1) (vs := [1, 2]) (Γ := [.d (tupD r), .no, .no]) (ts := r.zipIdx) encE (fun q => if decide (q.1 < 0) then some (.int (q.2 : Int)) else none) (by simp [tupD, enumL_ints]) rfl (by
    rintro ⟨x, i⟩ _
    by_cases h : x < 0 <;> simp [lcStep, encE, h, gLt]) (by rw [List.length_zipIdx]; show _ ≤ 1000000; omega)
  rw [fm_idxs] at e
  refine ev_runx [.d (tupD r), .no, .no] ?_
  simp [e]
theorem e_with {r : List Int} {i : Nat} {x : Int} (hi : i < r.length) (hl : r.length ≤ 1000) : F_with_read [.d (tupD r), .d (.int i), .d (.int x)] = some (.d (tupD (putAt r i x)), [.d (tupD r), .d (.int i), .d (.int x)]) := by
  refine ev_runx [.d (tupD r), .d (.int i), .d (.int x)] ?_
  have h1 : min i r.length ≤ 1000000 := by omega
  have h2 : r.length - (i + 1) ≤ 1000000 := by omega
  have h3 : min i r.length + (r.length - (i + 1) + 1) ≤ 1000000 := by omega
  simp [tupD, cut_take, cut_drop1, h1, h2, h3, putAt]
theorem e_lwith {r : List Int} {i : Nat} {x : Int} (hi : i < r.length) (hl : r.length ≤ 1000) : F__law_with [.d (tupD r), .d (.int i), .d (.int x)] = some (.d (tupD (putAt r i x)), [.d (tupD r), .d (.int i), .d (.int x)]) := by
  refine ev_runx [.d (tupD r), .d (.int i), .d (.int x)] ?_
  have h1 : min i r.length ≤ 999999 := by omega
  have h3 : min i r.length + 1 + (r.length - (i + 1)) ≤ 1000000 := by omega
  simp [tupD, cut_take, cut_drop1, h1, h3, putAt]
def missI (shows : List (List Int)) (r : List Int) : List Int := idxs (fun q => q.1 != -1 && !((shows[q.2]?).getD []).contains q.1) r
theorem idxs_mem {r : List Int} {q : Int × Nat} (h : q ∈ r.zipIdx) : r[q.2]? = some q.1 ∧ q.2 < r.length := by
  obtain ⟨x, i⟩ := q
  have := List.mem_zipIdx_iff_getElem?.mp h
  exact ⟨this, (List.getElem?_eq_some_iff.mp this).1⟩
theorem e_lmisses {b : Bk} {k : Nat} {kd : Str × Str × List (List Int)} {r : List Int} (hk : b.kinds[k]? = some kd) (hl : r.length = kd.2.2.length) (hr : ∀ x ∈ r, -1 ≤ x) (hz : r.length ≤ 1000) :
    F__law_misses [.d (encB b), .d (.int k), .d (tupD r)] = some (.d (tupD (missI kd.2.2 r)), [.d (encB b), .d (.int k), .d (tupD r)]) := by
  have a1 : L2.atI (b.kinds.map encK) (k : Int) = some (encK kd) := atI_nat (by rw [List.getElem?_map, hk]; rfl)
  have e := lc_pure (mi := mEnum (mVar 2)) (g := setT 2 (setC (setS 3) (setC (setS 4) setN))) (mt := mAndT (mB (mBin gGe (mVar 4) (mC (.int 0)))) (mB (mBin gNin (mVar 4) (mBin gIx (mBin gIx (mBin gIx (mBin gIx (mVar 0) (mC (.int 3))) (mVar 1)) (mC (.int 2))) (mVar 3))))) (me := mVar 3) (vs := [3, 4]) (Γ := [.d (encB b), .d (.int k), .d (tupD r), .no, .no]) (ts := r.zipIdx) encE (fun q => if q.1 != -1 && !((kd.2.2[q.2]?).getD []).contains q.1 then some (.int (q.2 : Int)) else none) (by simp [tupD, enumL_ints]) rfl (by
    rintro ⟨x, i⟩ hq
    obtain ⟨q1, q2⟩ := idxs_mem hq
    have hx := hr x (List.mem_iff_getElem?.mpr ⟨i, q1⟩)
    have q3 : i < kd.2.2.length := by rw [← hl]; exact q2
    have a2 : L2.atI (kd.2.2.map tupD) (i : Int) = some (tupD kd.2.2[i]) := atI_nat (by rw [List.getElem?_map, List.getElem?_eq_getElem q3]; rfl)
    have e3 : (kd.2.2[i]?).getD [] = kd.2.2[i] := by rw [List.getElem?_eq_getElem q3]; rfl
    by_cases h : x = -1
    · subst h
      simp [lcStep, encE, gGe]
    · have h0 : 0 ≤ x := by omega
      cases hc : kd.2.2[i].contains x <;> simp [lcStep, encE, gGe, h, h0, encB, encK, a1, a2, gNin, e3, hc, -List.contains_eq_mem]) (by rw [List.length_zipIdx]; show _ ≤ 1000000; omega)
  rw [fm_idxs] at e
  refine ev_runx [.d (encB b), .d (.int k), .d (tupD r), .no, .no] ?_
  simp [e, -List.contains_eq_mem]
  rfl
theorem miss_eq {shows : List (List Int)} {r : List Int} : (r.zipIdx.filter fun a : Int × Nat => !((shows[a.2]?).getD []).contains a.1 && a.1 != -1).map (fun q => PyData.int (q.2 : Int)) = (missI shows r).map PyData.int := by
  unfold missI idxs
  rw [List.map_map]
  have : (fun a : Int × Nat => !((shows[a.2]?).getD []).contains a.1 && a.1 != -1) = fun q => q.1 != -1 && !((shows[q.2]?).getD []).contains q.1 := by
    funext q; rw [Bool.and_comm]
  rw [this]
  rfl
theorem e_misses {b : Bk} {k : Nat} {kd : Str × Str × List (List Int)} {r : List Int} (hk : b.kinds[k]? = some kd) (hl : r.length = kd.2.2.length) (hz : r.length ≤ 1000) :
    F_misses [.d (encB b), .d (.int k), .d (tupD r)] = some (.d (tupD (missI kd.2.2 r)), [.d (encB b), .d (.int k), .d (tupD r)]) := by
  have e := lc_pure (mi := mSeqI (mCall 1 F_read_traits (mAc (mVar 2) mA0))) (g := setS 3) (mt := mB (mBin gNin (mBin gIx (mVar 2) (mVar 3)) (mCall 3 F_shows_of (mAc (mVar 0) (mAc (mVar 1) (mAc (mVar 3) mA0)))))) (me := mVar 3) (vs := [3]) (Γ := [.d (encB b), .d (.int k), .d (tupD r), .no]) (ts := r.zipIdx.filter fun q => q.1 != -1) (fun q => .int (pos q)) (fun q => if !((kd.2.2[q.2]?).getD []).contains q.1 then some (.int (q.2 : Int)) else none) (by simp [ev_Call, e_read hz, idxs]) rfl (by
    rintro ⟨x, i⟩ hq
    obtain ⟨q1, q2⟩ := idxs_mem (List.mem_filter.mp hq).1
    have q3 : i < kd.2.2.length := by rw [← hl]; exact q2
    have e3 : (kd.2.2[i]?).getD [] = kd.2.2[i] := by rw [List.getElem?_eq_getElem q3]; rfl
    have a0 : L2.atI (r.map PyData.int) (i : Int) = some (.int x) := atI_nat (by rw [List.getElem?_map, q1]; rfl)
    have es := e_shows hk (List.getElem?_eq_getElem q3)
    cases hc : kd.2.2[i].contains x <;> simp [lcStep, pos, ev_Call, es, a0, gNin, e3, hc, -List.contains_eq_mem, ev_seqr]) (by have := List.length_filter_le (fun q : Int × Nat => q.1 != -1) r.zipIdx; rw [List.length_zipIdx] at this; show _ ≤ 1000000; omega)
  rw [fm_filter (fun q : Int × Nat => !((kd.2.2[q.2]?).getD []).contains q.1) (fun q => PyData.int (q.2 : Int)), List.filter_filter, miss_eq] at e
  refine ev_runx [.d (encB b), .d (.int k), .d (tupD r), .no] ?_
  simp [e]
  rfl
end K22

set_option Elab.async false
set_option linter.all false
set_option maxRecDepth 100000
set_option maxHeartbeats 4000000
namespace K22
open PySem DL
def showsK (b : Bk) (k : Nat) : List (List Int) := ((b.kinds[k]?).map (·.2.2)).getD []
def groupK (b : Bk) (k : Nat) : Str := ((b.kinds[k]?).map (·.2.1)).getD ""
def missK (b : Bk) (k : Nat) (r : List Int) : List Int := missI (showsK b k) r
def castN (l : List Nat) : List Int := l.map fun (i : Nat) => (i : Int)
theorem rd_ok {b : Bk} {r : List Int} {k : Nat} (hb : OkBk b) (hr : OkR b r) (hk : k < b.kinds.length) : ∃ kd, b.kinds[k]? = some kd ∧ kd ∈ b.kinds ∧ OkKd b.traits kd ∧ r.length = kd.2.2.length ∧ r.length ≤ 4 ∧ (∀ x ∈ r, -1 ≤ x) ∧ showsK b k = kd.2.2 ∧ groupK b k = kd.2.1 := by
  have e : b.kinds[k]? = some b.kinds[k] := List.getElem?_eq_getElem hk
  have hm : b.kinds[k] ∈ b.kinds := List.getElem_mem hk
  have ho := hb.2.2.2.1 _ hm
  have l1 := each_len ho.1
  have l2 := each_len hr
  have l3 := hb.1.2.1
  refine ⟨_, e, hm, ho, by omega, by omega, fun x hx => ?_, by simp [showsK, e], by simp [groupK, e]⟩
  obtain ⟨t, _, q⟩ := each_mem hr hx
  exact q.1
theorem ev_CallX (n : Nat) (F : FS) (ma : MA) (Γ : DL.Env) : mCall n F ma Γ = (ma Γ).bind fun p => (argsS p.2 p.1).bind fun args => if p.1.length = n ∧ (borIx p.1).Nodup then (F args).bind fun q => if keepable q.1 = true ∧ q.2.length = args.length then some (q.1, backS p.2 p.1 q.2) else none else none := id rfl
theorem rng_x {m : M} {Γ Γ' : DL.Env} {x : Int} (h : m Γ = some (.d (.int x), Γ')) (h0 : 0 ≤ x) (hn : x ≤ 1000) : mRange1 m Γ = some ((rngI x).map PyData.int, Γ') := by
  have h9 : -4611686018427387904 ≤ x ∧ x < 4611686018427387904 := by omega
  simp [h, h9, rngD_eq]
theorem rngI_nat (n : Nat) : rngI (n : Int) = castN (List.range n) := rfl
theorem rng_of {m : M} {Γ Γ' : DL.Env} {n : Nat} (h : m Γ = some (.d (.int n), Γ')) (hn : n ≤ 1000) : mRange1 m Γ = some ((List.range n).map (fun k : Nat => PyData.int k), Γ') := by
  rw [rng_x h (Int.natCast_nonneg n) (by omega), rngI_nat, castN, List.map_map]
  rfl
theorem e_missK {b : Bk} {r : List Int} {k : Nat} (hb : OkBk b) (hr : OkR b r) (hk : k < b.kinds.length) : F_misses [.d (encB b), .d (.int k), .d (tupD r)] = some (.d (tupD (missK b k r)), [.d (encB b), .d (.int k), .d (tupD r)]) := by
  obtain ⟨kd, h1, _, _, h2, h3, _, h4, _⟩ := rd_ok hb hr hk
  rw [missK, h4]
  exact e_misses h1 h2 (by omega)
theorem e_lmissK {b : Bk} {r : List Int} {k : Nat} (hb : OkBk b) (hr : OkR b r) (hk : k < b.kinds.length) : F__law_misses [.d (encB b), .d (.int k), .d (tupD r)] = some (.d (tupD (missK b k r)), [.d (encB b), .d (.int k), .d (tupD r)]) := by
  obtain ⟨kd, h1, _, _, h2, h3, h5, h4, _⟩ := rd_ok hb hr hk
  rw [missK, h4]
  exact e_lmisses h1 h2 h5 (by omega)
def fitK (b : Bk) (r : List Int) (k : Nat) : Bool := decide (((missK b k r).length : Int) ≤ b.errs)
theorem e_fits {b : Bk} {r : List Int} {k : Nat} (hb : OkBk b) (hr : OkR b r) (hk : k < b.kinds.length) : F_fits [.d (encB b), .d (.int k), .d (tupD r)] = some (.d (.bool (fitK b r k)), [.d (encB b), .d (.int k), .d (tupD r)]) := by
  refine ev_runx [.d (encB b), .d (.int k), .d (tupD r)] ?_
  simp [ev_CallX, e_missK hb hr hk, gLe]
  simp [encB, tupD, fitK]
def toldN (b : Bk) (r : List Int) : List Nat := (List.range b.kinds.length).filter (fitK b r)
theorem mem_rng {n : Nat} {x : Nat} (h : x ∈ List.range n) : x < n := List.mem_range.mp h
theorem told_fm {b : Bk} {r : List Int} : ((List.range b.kinds.length).filterMap fun k => if fitK b r k then some (PyData.int (k : Int)) else none) = (castN (toldN b r)).map PyData.int := by
  rw [fm_filter (fitK b r) (fun k => PyData.int (k : Int))]
  unfold castN toldN
  rw [List.map_map]
  rfl
theorem e_told {b : Bk} {r : List Int} (hb : OkBk b) (hr : OkR b r) : F_told [.d (encB b), .d (tupD r)] = some (.d (tupD (castN (toldN b r))), [.d (encB b), .d (tupD r)]) := by
  have h7 := hb.2.2.1
  have e := lc_pure (mi := mRange1 (mUn (gSc1 lenD) (mBin gIx (mVar 0) (mC (.int 3))))) (g := setS 2) (mt := mTru (mCall 3 F_fits (mAc (mVar 0) (mAc (mVar 2) (mAc (mVar 1) mA0))))) (me := mVar 2) (vs := [2]) (Γ := [.d (encB b), .d (tupD r), .no]) (ts := List.range b.kinds.length) (fun k : Nat => .int k) (fun k => if fitK b r k then some (.int (k : Int)) else none) (rng_of (by simp [encB]) (by omega)) rfl (by
    intro k hk
    have ef := e_fits hb hr (mem_rng hk)
    cases h : fitK b r k <;> simp [lcStep, ev_CallX, ef, h, truD]) (by rw [List.length_range]; show _ ≤ 1000000; omega)
  rw [told_fm] at e
  refine ev_runx [.d (encB b), .d (tupD r), .no] ?_
  simp [e]
  rfl
theorem e_ltold {b : Bk} {r : List Int} (hb : OkBk b) (hr : OkR b r) : F__law_told [.d (encB b), .d (tupD r)] = some (.d (tupD (castN (toldN b r))), [.d (encB b), .d (tupD r)]) := by
  have h7 := hb.2.2.1
  have e := lc_pure (mi := mRange1 (mUn (gSc1 lenD) (mBin gIx (mVar 0) (mC (.int 3))))) (g := setS 2) (mt := mB (mBin gLe (mUn (gSc1 lenD) (mCall 3 F__law_misses (mAc (mVar 0) (mAc (mVar 2) (mAc (mVar 1) mA0))))) (mBin gIx (mVar 0) (mC (.int 1))))) (me := mVar 2) (vs := [2]) (Γ := [.d (encB b), .d (tupD r), .no]) (ts := List.range b.kinds.length) (fun k : Nat => .int k) (fun k => if fitK b r k then some (.int (k : Int)) else none) (rng_of (by simp [encB]) (by omega)) rfl (by
    intro k hk
    have ef := e_lmissK hb hr (mem_rng hk)
    have el : lenD (tupD (missK b k r)) = some (.int (missK b k r).length) := by simp [tupD]
    have eb : L2.atI [PyData.str b.name, PyData.int b.errs, PyData.tuple (b.traits.map encT), PyData.tuple (b.kinds.map encK)] 1 = some (.int b.errs) := rfl
    have hz : encB b = (PyData.tuple [PyData.str b.name, PyData.int b.errs, PyData.tuple (b.traits.map encT), PyData.tuple (b.kinds.map encK)]) := rfl
    have hs : seqOf (encB b) = some (false, [PyData.str b.name, PyData.int b.errs, PyData.tuple (b.traits.map encT), PyData.tuple (b.kinds.map encK)]) := rfl
    cases h : fitK b r k <;> (simp only [fitK, decide_eq_false_iff_not, decide_eq_true_eq] at h; simp [lcStep, ev_CallX, ef, h, el, hs, gLe])) (by rw [List.length_range]; show _ ≤ 1000000; omega)
  rw [told_fm] at e
  refine ev_runx [.d (encB b), .d (tupD r), .no] ?_
  simp [e]
  rfl
theorem shp_tints (l : List Int) : SeqAt.shaped (tupD l) = true := by
  have h1 : ∀ l : List Int, PyData.canLayAll0 (l.map PyData.int) = true := fun l => by
    induction l with
    | nil => rfl
    | cons x r ih => rw [List.map_cons, PyData.canLayAll0, ih]; simp [PyData.canLay0]
  simp [tupD, SeqAt.shaped, PyData.canLay0, PyData.depth, h1, PySem.W.depth_ints]
@[simp] theorem ev_eqt0 (l : List Int) : eqD (tupD l) (.tuple []) = some (.bool l.isEmpty) := by
  unfold eqD
  have h : SeqAt.shaped (.tuple []) = true := shp_tints []
  rw [if_pos (by rw [shp_tints, h]; rfl)]
  cases l <;> simp [tupD, PyData.eqv, PyData.eqvAll]
@[simp] theorem ev_eqb0 (l : List Int) : eqD (.list (l.map PyData.int)) (.list []) = some (.bool l.isEmpty) := by
  unfold eqD
  have h : SeqAt.shaped (.list []) = true := shp_ints []
  rw [if_pos (by rw [shp_ints, h]; rfl)]
  cases l <;> simp [PyData.eqv, PyData.eqvAll]
theorem strange_r {F : FS} {B : Dat} {l r : List Int} (e : F [.d B, .d (tupD r)] = some (.d (tupD l), [.d B, .d (tupD r)])) :
    runF 2 2 [] (mRet 2 (mBin gEq (mCall 2 F (mAc (mVar 0) (mAc (mVar 1) mA0))) (mTup mD0))) [.d B, .d (tupD r)] = some (.d (.bool l.isEmpty), [.d B, .d (tupD r)]) :=
  ev_runx [.d B, .d (tupD r)] (ret_of (s := .d (.bool l.isEmpty)) (Γ1 := [.d B, .d (tupD r)]) (bin_of (call2 (ev_vd rfl) (ev_vd rfl) e rfl) (show mTup mD0 [.d B, .d (tupD r)] = some (.d (.tuple []), [.d B, .d (tupD r)]) by simp) (by simp [gEq, -List.isEmpty_iff])) rfl)
theorem e_strange {b : Bk} {r : List Int} (hb : OkBk b) (hr : OkR b r) : F_is_strange [.d (encB b), .d (tupD r)] = some (.d (.bool (castN (toldN b r)).isEmpty), [.d (encB b), .d (tupD r)]) :=
  strange_r (e_told hb hr)
end K22

set_option Elab.async false
set_option linter.all false
set_option maxRecDepth 100000
set_option maxHeartbeats 4000000
namespace K22
open PySem DL
/-! ### groups -/
def groupsN (b : Bk) (lot : List Nat) : List Str := sortU (lot.map (groupK b))
theorem group_at {b : Bk} {k : Nat} (h : k < b.kinds.length) : ∃ kd, L2.atI (b.kinds.map encK) (k : Int) = some (encK kd) ∧ groupK b k = kd.2.1 := by
  have e : b.kinds[k]? = some b.kinds[k] := List.getElem?_eq_getElem h
  exact ⟨b.kinds[k], atI_nat (by rw [List.getElem?_map, e]; rfl), by simp [groupK, e]⟩
theorem cast_it (lot : List Nat) : (castN lot).map PyData.int = lot.map fun k : Nat => PyData.int k := by
  unfold castN
  rw [List.map_map]
  rfl
theorem e_groups {b : Bk} {lot : List Nat} (hl : ∀ k ∈ lot, k < b.kinds.length) (hn : lot.length < 64) : F_groups_of [.d (encB b), .d (tupD (castN lot))] = some (.d (.tuple ((groupsN b lot).map PyData.str)), [.d (encB b), .d (tupD (castN lot))]) := by
  refine ev_runx [.d (encB b), .d (tupD (castN lot)), .no] (ret_of (s := .d (.tuple ((groupsN b lot).map PyData.str))) (un_of (sortD_of (groupK b) (ts := lot) (dc_pure (Γ0 := [.d (encB b), .d (tupD (castN lot)), .no]) (fun k : Nat => .int k) (fun k => (.inr (groupK b k), .bool true)) ?_ rfl ?_ ?_) hn) rfl) rfl)
  · simp [tupD, cast_it]
  · intro k hk
    obtain ⟨kd, h1, h2⟩ := group_at (hl k hk)
    rw [h2]
    simp [dcStep, encB, h1, encK, keyOfD]
  · show _ ≤ 1000000
    omega
theorem e_lgroups {b : Bk} {lot : List Nat} (hl : ∀ k ∈ lot, k < b.kinds.length) (hn : lot.length < 64) : F__law_groups [.d (encB b), .d (tupD (castN lot))] = some (.own (.lst ((groupsN b lot).map PyData.str)), [.d (encB b), .d (tupD (castN lot))]) := by
  have e := lc_pure (mi := mSeqI (mVar 1)) (g := setS 2) (mt := mYes) (me := mBin gIx (mBin gIx (mBin gIx (mVar 0) (mC (.int 3))) (mVar 2)) (mC (.int 1))) (vs := [2]) (Γ := [.d (encB b), .d (tupD (castN lot)), .no]) (ts := lot) (fun k : Nat => .int k) (fun k => some (.str (groupK b k))) (by simp [tupD, cast_it]) rfl (by
    intro k hk
    obtain ⟨kd, h1, h2⟩ := group_at (hl k hk)
    rw [h2]
    simp [lcStep, encB, h1, encK]) (by show _ ≤ 1000000; omega)
  have ef : lot.filterMap (fun k => some (PyData.str (groupK b k))) = (lot.map (groupK b)).map PyData.str := by
    rw [List.filterMap_eq_map', List.map_map]
    rfl
  rw [ef] at e
  exact ev_runx [.d (encB b), .d (tupD (castN lot)), .no] (ret_of (sortSet_of e (by rw [List.length_map]; exact hn)) rfl)
/-! ### the one member -/
def oneD : List Dat → Dat
  | [x] => x
  | _ => .none
theorem one_t {Γ : DL.Env} {i : Nat} {l : List Dat} (h : Γ[i]? = some (.d (.tuple l))) : mIf (mB (mBin gEq (mUn (gSc1 lenD) (mVar i)) (mC (.int 1)))) (mBin gIx (mVar i) (mC (.int 0))) (mC .none) Γ = some (.d (oneD l), Γ) := by
  match l with
  | [] => simp [h, gEq, oneD]
  | [x] => simp [h, gEq, oneD]
  | x :: y :: r =>
    have h2 : ¬ ((r.length : Int) + 1 + 1 = 1) := by omega
    simp [h, gEq, oneD, h2]
theorem one_o {Γ : DL.Env} {i : Nat} {l : List Dat} (h : Γ[i]? = some (.own (.lst l))) : mIf (mB (mBin gEq (mUn (gSc1 lenD) (mVar i)) (mC (.int 1)))) (mBin gIx (mVar i) (mC (.int 0))) (mC .none) Γ = some (.d (oneD l), Γ) := by
  match l with
  | [] => simp [h, gEq, oneD]
  | [x] => simp [h, gEq, oneD]
  | x :: y :: r =>
    have h2 : ¬ ((r.length : Int) + 1 + 1 = 1) := by omega
    simp [h, gEq, oneD, h2]
theorem told_lt {b : Bk} {r : List Int} : ∀ k ∈ toldN b r, k < b.kinds.length := fun k hk => List.mem_range.mp (List.mem_filter.mp hk).1
theorem told_len {b : Bk} {r : List Int} : (toldN b r).length ≤ b.kinds.length := by
  have := List.length_filter_le (fitK b r) (List.range b.kinds.length)
  rw [List.length_range] at this
  exact this
theorem sure_r {F : FS} {B R : Dat} {l : List Dat} (e : F [.d B, .d R] = some (.d (.tuple l), [.d B, .d R])) :
    runF 2 3 [2] (mSeq (mSet (setS 2) (mCall 2 F (mAc (mVar 0) (mAc (mVar 1) mA0)))) (mRet 2 (mIf (mB (mBin gEq (mUn (gSc1 lenD) (mVar 2)) (mC (.int 1)))) (mBin gIx (mVar 2) (mC (.int 0))) (mC .none)))) [.d B, .d R] = some (.d (oneD l), [.d B, .d R]) :=
  ev_runx [.d B, .d R, .d (.tuple l)] (seq_nx (set_of (call2 (ev_vd rfl) (ev_vd rfl) e rfl) rfl) (ret_of (one_t rfl) rfl))
theorem e_sureK {b : Bk} {r : List Int} (hb : OkBk b) (hr : OkR b r) : F_sure_kind [.d (encB b), .d (tupD r)] = some (.d (oneD ((castN (toldN b r)).map PyData.int)), [.d (encB b), .d (tupD r)]) := sure_r (e_told hb hr)
theorem sureg_r {F G : FS} {B R L : Dat} {l : List Dat} (e0 : G [.d B, .d R] = some (.d L, [.d B, .d R])) (e : F [.d B, .d L] = some (.d (.tuple l), [.d B, .d L])) :
    runF 2 3 [2] (mSeq (mSet (setS 2) (mCall 2 F (mAc (mVar 0) (mAc (mCall 2 G (mAc (mVar 0) (mAc (mVar 1) mA0))) mA0)))) (mRet 2 (mIf (mB (mBin gEq (mUn (gSc1 lenD) (mVar 2)) (mC (.int 1)))) (mBin gIx (mVar 2) (mC (.int 0))) (mC .none)))) [.d B, .d R] = some (.d (oneD l), [.d B, .d R]) :=
  ev_runx [.d B, .d R, .d (.tuple l)] (seq_nx (set_of (call2 (ev_vd rfl) (call2 (ev_vd rfl) (ev_vd rfl) e0 rfl) e rfl) rfl) (ret_of (one_t rfl) rfl))
theorem e_sureG {b : Bk} {r : List Int} (hb : OkBk b) (hr : OkR b r) : F_sure_group [.d (encB b), .d (tupD r)] = some (.d (oneD ((groupsN b (toldN b r)).map PyData.str)), [.d (encB b), .d (tupD r)]) :=
  sureg_r (e_told hb hr) (e_groups told_lt (by have := told_len (b := b) (r := r); have := hb.2.2.1; omega))
/-! ### loops that may be left -/
theorem forL_find {α : Type} {g : MG} {mb : MS} (enc : α → Dat) (P : DL.Env → Prop) (s : DL.Slot) (c : α → Bool) : ∀ {ts : List α} {Γ : DL.Env}, P Γ → (∀ t ∈ ts, ∀ Γ, P Γ → ∃ Γ', P Γ' ∧ forStep g mb (enc t) Γ = some (if c t then .ret s else .nx, Γ')) →
    ∃ Γ', P Γ' ∧ forL g mb (ts.map enc) Γ = some (if ts.any c then .ret s else .nx, Γ')
  | [], Γ, hP, _ => ⟨Γ, hP, by simp [forL]⟩
  | t :: ts, Γ, hP, h => by
    obtain ⟨Γ1, hP1, e1⟩ := h t (by simp) Γ hP
    unfold forStep at e1
    rw [List.map_cons, forL]
    cases hg : g (.d (enc t)) Γ with
    | none => rw [hg] at e1; cases e1
    | some Γ3 =>
      rw [hg] at e1
      simp only [Option.bind_some] at e1 ⊢
      rw [e1]
      cases hc : c t with
      | true => exact ⟨Γ1, hP1, by simp [hc]⟩
      | false =>
        obtain ⟨Γ2, hP2, e2⟩ := forL_find enc P s c (ts := ts) hP1 fun t ht => h t (List.mem_cons_of_mem _ ht)
        exact ⟨Γ2, hP2, by simpa [hc] using e2⟩
/-! ### what can have been read -/
def encP (q : Int × Int) : Dat := .tuple [.int q.1, .int q.2]
theorem zip_ints (r s : List Int) : zipL (r.map PyData.int) (s.map PyData.int) = (r.zip s).map encP := by
  unfold zipL
  rw [List.zip_map, List.map_map]
  rfl
def mis (r th : List Int) : Nat := ((r.zip th).filter fun q => decide (0 ≤ q.1) && decide (q.1 ≠ q.2)).length
theorem e_mis {b0 b1 : DL.Slot} {s4 : DL.Slot} {r th : List Int} (hr : r.length ≤ 1000) : mUn (gSc1 lenD) (mLc (mZip (mVar 2) (mVar 3)) (setT 2 (setC (setS 5) (setC (setS 6) setN))) (mAndT (mB (mBin gGe (mVar 5) (mC (.int 0)))) (mB (mBin gNe (mVar 5) (mVar 6)))) (mC (.int 1)) [5, 6]) [b0, b1, .d (tupD r), .d (tupD th), s4, .no, .no] = some (.d (.int (mis r th)), [b0, b1, .d (tupD r), .d (tupD th), s4, .no, .no]) := by
  have e := lc_pure (mi := mZip (mVar 2) (mVar 3)) (g := setT 2 (setC (setS 5) (setC (setS 6) setN))) (mt := mAndT (mB (mBin gGe (mVar 5) (mC (.int 0)))) (mB (mBin gNe (mVar 5) (mVar 6)))) (me := mC (.int 1)) (vs := [5, 6]) (Γ := [b0, b1, .d (tupD r), .d (tupD th), s4, .no, .no]) (ts := r.zip th) encP (fun q => if (decide (0 ≤ q.1) && decide (q.1 ≠ q.2)) = true then some (.int 1) else none) (by simp [tupD, zip_ints]) rfl (by
    rintro ⟨x, y⟩ _
    by_cases h1 : 0 ≤ x <;> by_cases h2 : x = y <;> simp [lcStep, encP, gGe, gNe, h1, h2]) (by rw [List.length_zip]; show _ ≤ 1000000; omega)
  rw [fm_filter] at e
  refine un_of e ?_
  simp [mis]
theorem rows_mem {cols : List (List Int)} {row : List Int} : row ∈ rowsI cols ↔ PySem.W.EachIs (fun x c => x ∈ c) row cols := by
  have gen : ∀ (cols fd : List (List Int)) (row : List Int), row ∈ cols.foldl addCol fd ↔ ∃ p ∈ fd, ∃ s, row = p ++ s ∧ PySem.W.EachIs (fun x c => x ∈ c) s cols := fun cols => by
    induction cols with
    | nil =>
      intro fd row
      constructor
      · exact fun h => ⟨row, h, [], by simp, .nil⟩
      · rintro ⟨p, hp, s, rfl, hs⟩
        cases hs
        simpa using hp
    | cons c cols ih =>
      intro fd row
      rw [List.foldl_cons, ih]
      constructor
      · rintro ⟨p, hp, s, rfl, hs⟩
        unfold addCol at hp
        obtain ⟨p0, hp0, hp⟩ := List.mem_flatMap.mp hp
        obtain ⟨x, hx, rfl⟩ := List.mem_map.mp hp
        exact ⟨p0, hp0, x :: s, by simp, .cons hx hs⟩
      · rintro ⟨p, hp, s, rfl, hs⟩
        cases hs with
        | @cons x _ s _ hx hs =>
          exact ⟨p ++ [x], List.mem_flatMap.mpr ⟨p, hp, List.mem_map.mpr ⟨x, hx, rfl⟩⟩, s, by simp, hs⟩
  unfold rowsI
  rw [gen]
  constructor
  · rintro ⟨p, hp, s, rfl, hs⟩
    rw [List.mem_singleton.mp hp]
    exact hs
  · exact fun h => ⟨[], by simp, row, rfl, h⟩
/-- how often a reading misses shows -/
def missC : List (List Int) → List Int → Nat
  | c :: cs, x :: r => (if x ≠ -1 ∧ x ∉ c then 1 else 0) + missC cs r
  | _, _ => 0
theorem missI_len {shows : List (List Int)} {r : List Int} (hl : r.length = shows.length) : (missI shows r).length = missC shows r := by
  have gen : ∀ (r : List Int) (sh pre : List (List Int)), r.length = sh.length → ((r.zipIdx pre.length).filter fun q => q.1 != -1 && !(((pre ++ sh)[q.2]?).getD []).contains q.1).length = missC sh r := fun r => by
    induction r with
    | nil => intro sh pre h; cases sh <;> simp [missC]
    | cons x r ih =>
      intro sh pre h
      cases sh with
      | nil => cases h
      | cons c sh =>
        have h2 := ih sh (pre ++ [c]) (by simpa using h)
        rw [List.length_append, List.length_singleton, List.append_assoc, List.singleton_append] at h2
        rw [List.zipIdx_cons, List.filter_cons, missC]
        have e : (((pre ++ c :: sh)[pre.length]?).getD []) = c := by simp
        simp only [e]
        by_cases h3 : x = -1
        · rw [if_neg (by simp [h3]), if_neg (by simp [h3]), h2]; omega
        · by_cases h4 : x ∈ c
          · rw [if_neg (by simp [h4]), if_neg (by simp [h4]), h2]; omega
          · rw [if_pos (by simp [h3, h4]), if_pos ⟨h3, h4⟩, List.length_cons, h2]; omega
  have := gen r shows [] hl
  unfold missI idxs
  rw [List.length_map]
  simpa using this
theorem mis_cons {x y : Int} {r th : List Int} : mis (x :: r) (y :: th) = (if 0 ≤ x ∧ x ≠ y then 1 else 0) + mis r th := by
  unfold mis
  rw [List.zip_cons_cons, List.filter_cons]
  by_cases h : 0 ≤ x ∧ x ≠ y
  · rw [if_pos (by simp [h]), if_pos h, List.length_cons]; omega
  · rw [if_neg (by simpa using h), if_neg h]; omega
theorem mis_ge {th : List Int} {sh : List (List Int)} (h : PySem.W.EachIs (fun x c => x ∈ c) th sh) : ∀ {r : List Int}, r.length = sh.length → (∀ x ∈ r, -1 ≤ x) → missC sh r ≤ mis r th := by
  induction h with
  | nil => intro r hl _; cases r with
    | nil => simp [missC]
    | cons _ _ => cases hl
  | @cons y c th sh hy _ ih =>
    intro r hl hr
    cases r with
    | nil => cases hl
    | cons x r =>
      have h1 := ih (r := r) (by simpa using hl) fun z hz => hr z (List.mem_cons_of_mem _ hz)
      have h2 := hr x (by simp)
      rw [missC, mis_cons]
      by_cases h3 : x ≠ -1 ∧ x ∉ c
      · have h4 : 0 ≤ x ∧ x ≠ y := ⟨by have := h3.1; omega, fun e => h3.2 (e ▸ hy)⟩
        rw [if_pos h3, if_pos h4]; omega
      · rw [if_neg h3]; omega
theorem mis_ex {sh : List (List Int)} : ∀ {r : List Int}, (∀ c ∈ sh, c ≠ []) → r.length = sh.length → ∃ th, PySem.W.EachIs (fun x c => x ∈ c) th sh ∧ mis r th ≤ missC sh r := by
  induction sh with
  | nil => intro r _ hl; cases r with
    | nil => exact ⟨[], .nil, by simp [mis]⟩
    | cons _ _ => cases hl
  | cons c sh ih =>
    intro r hc hl
    cases r with
    | nil => cases hl
    | cons x r =>
      obtain ⟨th, h1, h2⟩ := ih (r := r) (fun c hc' => hc c (List.mem_cons_of_mem _ hc')) (by simpa using hl)
      by_cases h : x ∈ c
      · refine ⟨x :: th, .cons h h1, ?_⟩
        rw [mis_cons, missC, if_neg (fun z => z.2 rfl)]
        omega
      · obtain ⟨y, hy⟩ := List.exists_mem_of_ne_nil c (hc c (by simp))
        refine ⟨y :: th, .cons hy h1, ?_⟩
        rw [mis_cons, missC]
        by_cases h3 : 0 ≤ x ∧ x ≠ y
        · rw [if_pos h3, if_pos ⟨by omega, h⟩]; omega
        · rw [if_neg h3]; omega
theorem can_eq {b : Bk} {r : List Int} {k : Nat} (hb : OkBk b) (hr : OkR b r) (hk : k < b.kinds.length) : ((rowsI (showsK b k)).any fun th => decide ((mis r th : Int) ≤ b.errs)) = fitK b r k := by
  obtain ⟨kd, h1, h2, h3, h4, h5, h6, h7, _⟩ := rd_ok hb hr hk
  have hn : ∀ c ∈ showsK b k, c ≠ [] := fun c hc => by
    rw [h7] at hc
    obtain ⟨_, _, q⟩ := each_mem h3.1 hc
    exact q.1
  unfold fitK missK
  rw [missI_len (by rw [h7]; exact h4)]
  by_cases hq : ((missC (showsK b k) r : Nat) : Int) ≤ b.errs
  · rw [decide_eq_true hq, List.any_eq_true]
    obtain ⟨th, q1, q2⟩ := mis_ex (r := r) hn (by rw [h7]; exact h4)
    exact ⟨th, rows_mem.mpr q1, decide_eq_true (by omega)⟩
  · rw [decide_eq_false hq, List.any_eq_false]
    intro th hth
    have := mis_ge (rows_mem.mp hth) (r := r) (by rw [h7]; exact h4) h6
    simp only [decide_eq_true_eq]
    omega
end K22

set_option Elab.async false
set_option linter.all false
set_option maxRecDepth 100000
set_option maxHeartbeats 4000000
namespace K22
open PySem DL
theorem e_canbe {b : Bk} {r : List Int} {k : Nat} (hb : OkBk b) (hr : OkR b r) (hk : k < b.kinds.length) : F__law_can_be [.d (encB b), .d (.int k), .d (tupD r)] = some (.d (.bool (fitK b r k)), [.d (encB b), .d (.int k), .d (tupD r)]) := by
  obtain ⟨kd, h1, h2, h3, h4, h5, h6, h7, _⟩ := rd_ok hb hr hk
  have a1 : L2.atI (b.kinds.map encK) (k : Int) = some (encK kd) := atI_nat (by rw [List.getElem?_map, h1]; rfl)
  have l1 := each_len h3.1
  have l2 := hb.1.2.1
  have ecols := lc_pure (mi := mSeqI (mBin gIx (mBin gIx (mBin gIx (mVar 0) (mC (.int 3))) (mVar 1)) (mC (.int 2)))) (g := setS 4) (mt := mYes) (me := mUn gList (mVar 4)) (vs := [4]) (Γ := [.d (encB b), .d (.int k), .d (tupD r), .no, .no, .no, .no]) (ts := kd.2.2) tupD (fun c => some (encC c)) (by simp [encB, a1, encK]) rfl (fun c _ => by simp [lcStep, tupD, encC]) (by show _ ≤ 1000000; omega)
  have ef : kd.2.2.filterMap (fun c => some (encC c)) = kd.2.2.map encC := by rw [List.filterMap_eq_map']
  rw [ef] at ecols
  obtain ⟨rr, er, hrr⟩ := e_rows_of (cols := kd.2.2) (by omega) (fun c hc => by
    obtain ⟨_, _, q⟩ := each_mem h3.1 hc
    exact q.2.1)
  have hcan := can_eq hb hr hk
  rw [h7] at hcan
  have hloop : ∀ Γ0 : DL.Env, (∃ s3 s4, Γ0 = [.d (encB b), .d (.int k), .d (tupD r), s3, s4, .no, .no]) → ∃ Γ', (∃ s3 s4, Γ' = [.d (encB b), .d (.int k), .d (tupD r), s3, s4, .no, .no]) ∧ forL (setS 3) (mIfS (mB (mBin gLe (mUn (gSc1 lenD) (mLc (mZip (mVar 2) (mVar 3)) (setT 2 (setC (setS 5) (setC (setS 6) setN))) (mAndT (mB (mBin gGe (mVar 5) (mC (.int 0)))) (mB (mBin gNe (mVar 5) (mVar 6)))) (mC (.int 1)) [5, 6])) (mBin gIx (mVar 0) (mC (.int 1))))) (mRet 3 (mC (.bool true))) mNext) ((rowsI kd.2.2).map tupD) Γ0 = some (if (rowsI kd.2.2).any (fun th => decide ((mis r th : Int) ≤ b.errs)) then .ret (.d (.bool true)) else .nx, Γ') := by
    intro Γ0 hΓ0
    refine forL_find tupD (fun Γ => ∃ s3 s4, Γ = [.d (encB b), .d (.int k), .d (tupD r), s3, s4, .no, .no]) (.d (.bool true)) (fun th => decide ((mis r th : Int) ≤ b.errs)) hΓ0 ?_
    rintro th _ _ ⟨s3, s4, rfl⟩
    have em := e_mis (b0 := .d (encB b)) (b1 := .d (.int k)) (s4 := s4) (r := r) (th := th) (by omega)
    have ee : mBin gIx (mVar 0) (mC (.int 1)) [.d (encB b), .d (.int k), .d (tupD r), .d (tupD th), s4, .no, .no] = some (.d (.int b.errs), [.d (encB b), .d (.int k), .d (tupD r), .d (tupD th), s4, .no, .no]) := by simp [encB]
    have et := bin_of (g := gLe) em ee (r := some (.d (.bool (decide ((mis r th : Int) ≤ b.errs))), [.d (encB b), .d (.int k), .d (tupD r), .d (tupD th), s4, .no, .no])) (by simp [gLe])
    refine ⟨[.d (encB b), .d (.int k), .d (tupD r), .d (tupD th), s4, .no, .no], ⟨_, _, rfl⟩, ?_⟩
    have es : setS 3 (.d (tupD th)) [.d (encB b), .d (.int k), .d (tupD r), s3, s4, .no, .no] = some [.d (encB b), .d (.int k), .d (tupD r), .d (tupD th), s4, .no, .no] := by simp
    unfold forStep
    rw [es]
    simp only [Option.bind_some]
    rw [ifs_of (mB_of et)]
    cases decide ((mis r th : Int) ≤ b.errs) <;> rfl
  obtain ⟨Γ', ⟨s3, s4, rfl⟩, e⟩ := hloop [.d (encB b), .d (.int k), .d (tupD r), .no, .no, .no, .no] ⟨_, _, rfl⟩
  rw [hcan] at e
  have eit : mSeqI (mCall 1 F__law_rows_of (mAc (mLc (mSeqI (mBin gIx (mBin gIx (mBin gIx (mVar 0) (mC (.int 3))) (mVar 1)) (mC (.int 2)))) (setS 4) mYes (mUn gList (mVar 4)) [4]) mA0)) [.d (encB b), .d (.int k), .d (tupD r), .no, .no, .no, .no] = some ((rowsI kd.2.2).map tupD, [.d (encB b), .d (.int k), .d (tupD r), .no, .no, .no, .no]) := by
    rcases hrr with rfl | rfl <;> simp [ev_CallX, ecols, er]
  refine ev_runx [.d (encB b), .d (.int k), .d (tupD r), s3, s4, .no, .no] ?_
  have ef2 : mFor (mSeqI (mCall 1 F__law_rows_of (mAc (mLc (mSeqI (mBin gIx (mBin gIx (mBin gIx (mVar 0) (mC (.int 3))) (mVar 1)) (mC (.int 2)))) (setS 4) mYes (mUn gList (mVar 4)) [4]) mA0))) (setS 3) (mIfS (mB (mBin gLe (mUn (gSc1 lenD) (mLc (mZip (mVar 2) (mVar 3)) (setT 2 (setC (setS 5) (setC (setS 6) setN))) (mAndT (mB (mBin gGe (mVar 5) (mC (.int 0)))) (mB (mBin gNe (mVar 5) (mVar 6)))) (mC (.int 1)) [5, 6])) (mBin gIx (mVar 0) (mC (.int 1))))) (mRet 3 (mC (.bool true))) mNext) [.d (encB b), .d (.int k), .d (tupD r), .no, .no, .no, .no] = some (if fitK b r k then .ret (.d (.bool true)) else .nx, [.d (encB b), .d (.int k), .d (tupD r), s3, s4, .no, .no]) := by
    unfold mFor
    rw [eit]
    exact e
  cases hf : fitK b r k with
  | true =>
    rw [hf] at ef2
    exact seq_ret ef2
  | false =>
    rw [hf] at ef2
    exact seq_nx ef2 rfl
/-! ### is it a reading -/
def wI (a c : Int) : Dat → Bool
  | .int x => decide (a ≤ x) && decide (x ≤ c)
  | _ => false
theorem e_isint (x : Dat) : F_is_integer [.d x] = some (.d (.bool (isTy .int x && !isTy .bool x)), [.d x]) := by
  refine ev_runx [.d x] ?_
  cases x <;> simp [isTy]
theorem e_lisint (x : Dat) : F__law_is_int [.d x] = some (.d (.bool (isTy .int x && !isTy .bool x)), [.d x]) := e_isint x
def intB (x : Dat) : Bool := isTy .int x && !isTy .bool x
theorem intB_eq (x : Dat) : intB x = match x with | .int _ => true | _ => false := by cases x <;> rfl
theorem e_within {x : Dat} {a c : Int} : F_is_within [.d x, .d (.int a), .d (.int c)] = some (.d (.bool (wI a c x)), [.d x, .d (.int a), .d (.int c)]) := by
  have e := e_isint x
  refine ev_runx [.d x, .d (.int a), .d (.int c)] ?_
  have h := intB_eq x
  unfold intB at h
  rw [h] at e
  cases x with
  | int i =>
    simp only at e
    by_cases h1 : a ≤ i <;> simp [ev_CallX, e, wI, iLe, h1]
  | none => simp only at e; simp [ev_CallX, e, wI]
  | bool _ => simp only at e; simp [ev_CallX, e, wI]
  | str _ => simp only at e; simp [ev_CallX, e, wI]
  | list _ => simp only at e; simp [ev_CallX, e, wI]
  | tuple _ => simp only at e; simp [ev_CallX, e, wI]
  | dict _ => simp only at e; simp [ev_CallX, e, wI]
def isRd (b : Bk) : Dat → Bool
  | .tuple l => decide (l.length = b.traits.length) && (b.traits.zip l).all fun q => wI (-1) q.1.2.1 q.2
  | _ => false
def isTupN (n : Nat) : Dat → Bool
  | .tuple l => decide (l.length = n)
  | _ => false
theorem e_tupof {x : Dat} {n : Nat} : F_is_tuple_of [.d x, .d (.int n)] = some (.d (.bool (isTupN n x)), [.d x, .d (.int n)]) := by
  refine ev_runx [.d x, .d (.int n)] ?_
  cases x with
  | tuple l =>
    simp [isTy, gEq, isTupN]
    omega
  | none => simp [isTy, isTupN]
  | bool _ => simp [isTy, isTupN]
  | str _ => simp [isTy, isTupN]
  | list _ => simp [isTy, isTupN]
  | int _ => simp [isTy, isTupN]
  | dict _ => simp [isTy, isTupN]
def encZ (q : (Str × Int × Int) × Dat) : Dat := .tuple [encT q.1, q.2]
theorem zip_tr (ts : List (Str × Int × Int)) (l : List Dat) : zipL (ts.map encT) l = (ts.zip l).map encZ := by
  unfold zipL
  rw [List.zip_map_left, List.map_map]
  rfl
theorem allD_map (l : List Bool) : allD (.list (l.map PyData.bool)) = some (.bool (l.all id)) := by
  letI : TabsC := ⟨[]⟩
  show (boolsOf (l.map PyData.bool)).map _ = _
  rw [boolsOf_map]
  rfl
theorem e_isrd {b : Bk} (hb : OkBk b) (x : Dat) : F_is_reading [.d (encB b), .d x] = some (.d (.bool (isRd b x)), [.d (encB b), .d x]) := by
  have h4 := hb.1.2.1
  have et := e_tupof (x := x) (n := b.traits.length)
  have e1 : mCall 2 F_is_tuple_of (mAc (mVar 1) (mAc (mUn (gSc1 lenD) (mBin gIx (mVar 0) (mC (.int 2)))) mA0)) [.d (encB b), .d x, .no, .no] = some (.d (.bool (isTupN b.traits.length x)), [.d (encB b), .d x, .no, .no]) :=
    call2 (ev_vd rfl) (show mUn (gSc1 lenD) (mBin gIx (mVar 0) (mC (.int 2))) [.d (encB b), .d x, .no, .no] = some (.d (.int b.traits.length), [.d (encB b), .d x, .no, .no]) by simp [encB]) et rfl
  refine ev_runx [.d (encB b), .d x, .no, .no] ?_
  have hno : ∀ x' : Dat, isTupN b.traits.length x = false → isRd b x = false → (mSeq (mIfS (mNotT (mTru (mCall 2 F_is_tuple_of (mAc (mVar 1) (mAc (mUn (gSc1 lenD) (mBin gIx (mVar 0) (mC (.int 2)))) mA0))))) (mRet 2 (mC (.bool false))) mNext) (mRet 2 (mUn (gSc1 allD) (mLc (mZip (mBin gIx (mVar 0) (mC (.int 2))) (mVar 1)) (setT 2 (setC (setS 2) (setC (setS 3) setN))) mYes (mCall 3 F_is_within (mAc (mVar 3) (mAc (mC (.int (-1))) (mAc (mBin gIx (mVar 2) (mC (.int 1))) mA0)))) [2, 3])))) [.d (encB b), .d x, .no, .no] = some (.ret (.d (.bool (isRd b x))), [.d (encB b), .d x, .no, .no]) := by
    intro _ h h2
    rw [h] at e1
    rw [h2]
    exact seq_ret (ifs_of (not_of (tru_of e1)))
  cases x with
  | tuple l =>
    by_cases hl : l.length = b.traits.length
    · have e := lc_pure (mi := mZip (mBin gIx (mVar 0) (mC (.int 2))) (mVar 1)) (g := setT 2 (setC (setS 2) (setC (setS 3) setN))) (mt := mYes) (me := mCall 3 F_is_within (mAc (mVar 3) (mAc (mC (.int (-1))) (mAc (mBin gIx (mVar 2) (mC (.int 1))) mA0)))) (vs := [2, 3]) (Γ := [.d (encB b), .d (.tuple l), .no, .no]) (ts := b.traits.zip l) encZ (fun q => some (.bool (wI (-1) q.1.2.1 q.2))) (by simp [encB, zip_tr]) rfl (by
        rintro ⟨t, y⟩ _
        have e := e_within (x := y) (a := -1) (c := t.2.1)
        simp [lcStep, encZ, encT, ev_CallX, e]) (by rw [List.length_zip]; show _ ≤ 1000000; omega)
      have ef : (b.traits.zip l).filterMap (fun q => some (PyData.bool (wI (-1) q.1.2.1 q.2))) = ((b.traits.zip l).map fun q => wI (-1) q.1.2.1 q.2).map PyData.bool := by
        rw [List.filterMap_eq_map', List.map_map]
        rfl
      rw [ef] at e
      have hd : decide (l.length = b.traits.length) = true := decide_eq_true hl
      rw [show isTupN b.traits.length (.tuple l) = true from hd] at e1
      refine seq_nx (if_no (not_tru e1)) (ret_of (s := .d (.bool (isRd b (.tuple l)))) (un_of e ?_) rfl)
      simp only [gSc1, ev_viewo, ev_datl, Option.bind_some, allD_map, isRd, hd, Bool.true_and]
      rw [List.all_map]
      rfl
    · have hd : decide (l.length = b.traits.length) = false := decide_eq_false hl
      exact hno .none hd (by simp [isRd, hl])
  | none => exact hno .none rfl rfl
  | bool _ => exact hno .none rfl rfl
  | str _ => exact hno .none rfl rfl
  | list _ => exact hno .none rfl rfl
  | int _ => exact hno .none rfl rfl
  | dict _ => exact hno .none rfl rfl
theorem fm_one {α : Type} (p : α → Bool) (l : List α) : l.filterMap (fun x => if p x then some (PyData.int 1) else none) = ((l.filter p).map fun _ => (1 : Int)).map PyData.int := by
  rw [fm_filter p (fun _ => PyData.int 1), List.map_map]
  rfl
theorem wI_not (x : Dat) (a c : Int) : wI a c x = (intB x && wI a c x) := by cases x <;> simp [wI, intB_eq]
theorem e_lisrd {b : Bk} (hb : OkBk b) (x : Dat) : F__law_is_reading [.d (encB b), .d x] = some (.d (.bool (isRd b x)), [.d (encB b), .d x]) := by
  have h4 := hb.1.2.1
  refine ev_runx [.d (encB b), .d x, .no, .no] ?_
  have hi : isTy .tup x = match x with | .tuple _ => true | _ => false := by cases x <;> rfl
  cases x with
  | tuple l =>
    by_cases hl : l.length = b.traits.length
    · have e := lc_pure (mi := mZip (mBin gIx (mVar 0) (mC (.int 2))) (mVar 1)) (g := setT 2 (setC (setS 2) (setC (setS 3) setN))) (mt := mOrT (mNotT (mTru (mCall 1 F__law_is_int (mAc (mVar 3) mA0)))) (mNotT (mChain (cmpI iLe) (cmpI iLe) (mUn gNeg (mC (.int 1))) (mVar 3) (mBin gIx (mVar 2) (mC (.int 1)))))) (me := mC (.int 1)) (vs := [2, 3]) (Γ := [.d (encB b), .d (.tuple l), .no, .no]) (ts := b.traits.zip l) encZ (fun q => if (!wI (-1) q.1.2.1 q.2) = true then some (.int 1) else none) (by simp [encB, zip_tr]) rfl (by
        rintro ⟨t, y⟩ _
        have e := e_lisint y
        have h := intB_eq y
        unfold intB at h
        rw [h] at e
        cases y with
        | int i =>
          simp only at e
          by_cases h1 : -1 ≤ i <;> by_cases h2 : i ≤ t.2.1 <;> simp [lcStep, encZ, encT, ev_CallX, e, wI, iLe, h1, h2, truD]
        | none => simp only at e; simp [lcStep, encZ, ev_CallX, e, wI, truD]
        | bool _ => simp only at e; simp [lcStep, encZ, ev_CallX, e, wI, truD]
        | str _ => simp only at e; simp [lcStep, encZ, ev_CallX, e, wI, truD]
        | list _ => simp only at e; simp [lcStep, encZ, ev_CallX, e, wI, truD]
        | tuple _ => simp only at e; simp [lcStep, encZ, ev_CallX, e, wI, truD]
        | dict _ => simp only at e; simp [lcStep, encZ, ev_CallX, e, wI, truD]) (by rw [List.length_zip]; show _ ≤ 1000000; omega)
      rw [fm_one (fun q : (Str × Int × Int) × Dat => !wI (-1) q.1.2.1 q.2)] at e
      have hlz : (l.length : Int) = b.traits.length := by omega
      have ec : mOrT (mNotT (mTru (mIsi .tup (mVar 1)))) (mB (mBin gNe (mUn (gSc1 lenD) (mVar 1)) (mUn (gSc1 lenD) (mBin gIx (mVar 0) (mC (.int 2)))))) [.d (encB b), .d (.tuple l), .no, .no] = some (false, [.d (encB b), .d (.tuple l), .no, .no]) := by
        simp [isTy, truD, encB, gNe, hlz]
      refine seq_nx (if_no ec) (ret_of (s := .d (.bool (isRd b (.tuple l)))) (bin_of e (show mLst mD0 [.d (encB b), .d (.tuple l), .no, .no] = some (.own (.lst []), [.d (encB b), .d (.tuple l), .no, .no]) by simp) ?_) rfl)
      have hee := ev_eqb0 (((b.traits.zip l).filter fun q => !wI (-1) q.1.2.1 q.2).map fun _ => (1 : Int))
      simp only [gEq, gSc, ev_viewo, ev_datl, Option.bind_some, hee, isRd, decide_eq_true hl, Bool.true_and]
      congr 4
      generalize b.traits.zip l = zs
      induction zs with
      | nil => rfl
      | cons z zs ih =>
        rw [List.filter_cons, List.all_cons]
        cases wI (-1) z.1.2.1 z.2 with
        | true => simpa using ih
        | false => simp
    · have hlz : ¬ (l.length : Int) = b.traits.length := by omega
      have hd : isRd b (.tuple l) = false := by simp [isRd, hl]
      rw [hd]
      simp [isTy, truD, encB, gNe, hlz]
  | none => simp [isTy, truD, isRd]
  | bool _ => simp [isTy, truD, isRd]
  | str _ => simp [isTy, truD, isRd]
  | list _ => simp [isTy, truD, isRd]
  | int _ => simp [isTy, truD, isRd]
  | dict _ => simp [isTy, truD, isRd]
end K22

set_option Elab.async false
set_option linter.all false
set_option maxRecDepth 100000
set_option maxHeartbeats 4000000
namespace K22
open PySem DL
/-! ### drawn values -/
theorem e_odd {β : Bag} (h : OkBag β) : ∃ x β', F__law_odd [.own (encBag β)] = some (.d x, [.own (encBag β')]) ∧ OkBag β' := by
  obtain ⟨x, β', _, hb, e⟩ := e_some_own (l := [.none, .bool true, .bool false, .int 0, .int (-1), .int 7, .int (10 ^ 30), .str "", .str "a", .str "beat", .tuple [], .list [], .dict [], .tuple [.int 0], .tuple [.tuple []], .list [.int 1], .dict [(.str "a", .int 1)], .tuple [.tuple [.int 1, .int 2]], .tuple [.str "a", .int 0]]) h (by simp) (by simp)
  refine ⟨x, β', ?_, hb⟩
  have hd : ∀ (s : Str) (v : Int) (Γ : DL.Env), mDict1 s (mC (.int v)) Γ = some (.own (.dct [(.str s, .int v)]), Γ) := fun _ _ _ => rfl
  have hp : ∀ (Γ : DL.Env), mBin gPow (mC (.int 10)) (mC (.int 30)) Γ = some (.d (.int (10 ^ 30)), Γ) := fun _ => rfl
  refine ev_runx [.own (encBag β'), .own (.lst [.none, .bool true, .bool false, .int 0, .int (-1), .int 7, .int (10 ^ 30), .str "", .str "a", .str "beat", .tuple [], .list [], .dict [], .tuple [.int 0], .tuple [.tuple []], .list [.int 1], .dict [(.str "a", .int 1)], .tuple [.tuple [.int 1, .int 2]], .tuple [.str "a", .int 0]])] ?_
  generalize hq : (10 : Int) ^ 30 = q at e hp ⊢
  simp [hd, hp, ev_CallX, e, -ev_Bin]
theorem e_reading {β : Bag} {b : Bk} (h : OkBag β) (hb : OkBk b) : ∃ r β', F__law_reading [.own (encBag β), .d (encB b)] = some (.d (tupD r), [.own (encBag β'), .d (encB b)]) ∧ OkBag β' ∧ OkR b r := by
  have h4 := hb.1.2.1
  obtain ⟨os, Γ', e2, ⟨β2, hb2, rfl⟩, hR⟩ := lc_inv (mi := mSeqI (mBin gIx (mVar 1) (mC (.int 2)))) (g := setT 3 (setC (setS 2) (setC (setS 3) (setC (setS 4) setN)))) (mt := mYes) (me := mBin gSub (mCall 2 F__law_take (mAc (mVar 0) (mAc (mBin gAdd (mVar 3) (mC (.int 2))) mA0))) (mC (.int 1))) (vs := [2, 3, 4])
    (Γ := [.own (encBag β), .d (encB b), .no, .no, .no]) (Γ0 := [.own (encBag β), .d (encB b), .no, .no, .no]) (ts := b.traits) encT
    (fun Γ => ∃ β', OkBag β' ∧ Γ = [.own (encBag β'), .d (encB b), .no, .no, .no]) (fun t o => ∃ x : Int, o = some (.int x) ∧ (-1 ≤ x ∧ x ≤ t.2.1))
    (by simp [encB]) rfl ⟨β, h, rfl⟩ (by
      rintro t hm _ ⟨β1, hb1, rfl⟩
      have q := hb.1.2.2 t hm
      obtain ⟨v, β2, e, h0, h1, hb2⟩ := e_take (n := t.2.1 + 2) hb1 (by omega) (by omega)
      exact ⟨some (.int (v - 1)), [.own (encBag β2), .d (encB b), .no, .no, .no], by simp [lcStep, encT, ev_CallX, e], ⟨β2, hb2, rfl⟩, v - 1, rfl, by omega, by omega⟩) (by show _ ≤ 1000000; omega)
  obtain ⟨r, hr1, hr2⟩ := gather hR
  rw [hr1] at e2
  exact ⟨r, β2, ev_runx [.own (encBag β2), .d (encB b), .no, .no, .no] (ret_of (un_of e2 rfl) rfl), hb2, hr2⟩
theorem ne_tup {l : List Int} (h : l ≠ []) : neD (tupD l) (.tuple []) = some (.bool true) := by
  unfold neD
  have hs : SeqAt.shaped (.tuple []) = true := shp_tints []
  rw [if_pos (by rw [shp_tints, hs]; rfl)]
  cases l with
  | nil => exact absurd rfl h
  | cons x r => simp [tupD, PyData.eqv, PyData.eqvAll]
theorem e_bent1 {β : Bag} {x : Int} (h : OkBag β) : ∃ y β', F__law_bent 1 [.own (encBag β), .d (.int x), .d (.int 0)] = some (.d y, [.own (encBag β'), .d (.int x), .d (.int 0)]) ∧ OkBag β' := by
  obtain ⟨y, β', _, hb, e⟩ := e_some_own (l := [.int (x + 1), .int (x - 1), .int (-x), .bool (decide (x = 1)), .tuple [.int x], .int (10 ^ 30)]) h (by simp) (by simp)
  refine ⟨y, β', ?_, hb⟩
  have hp : ∀ (Γ : DL.Env), mBin gPow (mC (.int 10)) (mC (.int 30)) Γ = some (.d (.int (10 ^ 30)), Γ) := fun _ => rfl
  unfold F__law_bent
  simp only []
  generalize F__law_bent 0 = F0
  refine ev_runx [.own (encBag β'), .d (.int x), .d (.int 0), .no, .no] ?_
  refine seq_nx (if_no (Γ1 := [.own (encBag β), .d (.int x), .d (.int 0), .no, .no]) (by simp [isTy, truD])) ?_
  refine seq_nx (if_no (Γ1 := [.own (encBag β), .d (.int x), .d (.int 0), .no, .no]) (by simp [isTy, truD])) ?_
  generalize hq : (10 : Int) ^ 30 = q at e hp ⊢
  have el : mLst (mDc (mBin gAdd (mVar 1) (mC (.int 1))) (mDc (mBin gSub (mVar 1) (mC (.int 1))) (mDc (mUn gNeg (mVar 1)) (mDc (mBin gEq (mVar 1) (mC (.int 1))) (mDc (mTup (mDc (mVar 1) mD0)) (mDc (mBin gPow (mC (.int 10)) (mC (.int 30))) mD0)))))) [.own (encBag β), .d (.int x), .d (.int 0), .no, .no] = some (.own (.lst [.int (x + 1), .int (x - 1), .int (-x), .bool (decide (x = 1)), .tuple [.int x], .int q]), [.own (encBag β), .d (.int x), .d (.int 0), .no, .no]) := by
    have h0 := hp [.own (encBag β), .d (.int x), .d (.int 0), .no, .no]
    generalize mBin gPow (mC (.int 10)) (mC (.int 30)) = mp at h0 ⊢
    simp [h0, gEq]
  have ei : mTru (mIsi .int (mVar 1)) [.own (encBag β), .d (.int x), .d (.int 0), .no, .no] = some (true, [.own (encBag β), .d (.int x), .d (.int 0), .no, .no]) := by simp [isTy, truD]
  refine seq_ret ((ifs_of ei).trans (ret_of (s := .d y) (call_of (ac_of (ev_vo rfl) (ac_of el rfl)) rfl e) rfl))
end K22

set_option Elab.async false
set_option linter.all false
set_option maxRecDepth 100000
set_option maxHeartbeats 4000000
namespace K22
open PySem DL
theorem at_tup {r : List Int} {i : Nat} (h : i < r.length) : L2.atI (r.map PyData.int) (i : Int) = some (.int r[i]) := atI_nat (by rw [List.getElem?_map, List.getElem?_eq_getElem h]; rfl)
theorem e_bent2 {β : Bag} {r : List Int} (h : OkBag β) (hr : r ≠ []) (hl : r.length ≤ 4) : ∃ y β', F__law_bent 2 [.own (encBag β), .d (tupD r), .d (.int 1)] = some (.d y, [.own (encBag β'), .d (tupD r), .d (.int 1)]) ∧ OkBag β' := by
  have hp : 0 < r.length := List.length_pos_iff.mpr hr
  obtain ⟨v, β1, e1, v0, v1, h1⟩ := e_take (n := 4) h (by decide) (by decide)
  obtain ⟨w, β2, e2, w0, w1, h2⟩ := e_take (n := r.length) h1 (by omega) (by omega)
  obtain ⟨i, rfl⟩ : ∃ i : Nat, w = i := ⟨w.toNat, by omega⟩
  have hi : i < r.length := by omega
  have eN := ne_tup hr
  have hat := at_tup hi
  have eq2 : F__law_bent 2 = runF 3 5 [3, 4] _ := rfl
  rw [eq2]
  have g1 : i ≤ 1000 := by omega
  by_cases hv : 0 < v
  · obtain ⟨y, β3, e3, h3⟩ := e_bent1 (x := r[i]) h2
    refine ⟨.tuple ((r.map PyData.int).take i ++ y :: (r.map PyData.int).drop (i + 1)), β3, ?_, h3⟩
    generalize F__law_bent 1 = F1 at e3 ⊢
    refine ev_runx [.own (encBag β3), .d (tupD r), .d (.int 1), .d (.int i), .no] ?_
    refine seq_ret (ifs_of (c := true) (Γ1 := [.own (encBag β1), .d (tupD r), .d (.int 1), .no, .no]) ?_ |>.trans ?_)
    · have et : mCall 2 F__law_take (mAc (mVar 0) (mAc (mC (.int 4)) mA0)) [.own (encBag β), .d (tupD r), .d (.int 1), .no, .no] = some (.d (.int v), [.own (encBag β1), .d (tupD r), .d (.int 1), .no, .no]) := call_of (ac_of (ev_vo rfl) (ac_of rfl rfl)) rfl e1
      have hi2 : isTy .tup (tupD r) = true := rfl
      generalize mCall 2 F__law_take (mAc (mVar 0) (mAc (mC (.int 4)) mA0)) = mc at et ⊢
      simp [hi2, truD, gNe, eN, gGt, et, hv]
    · refine seq_nx (set_of (s := .d (.int i)) (call_of (Γ1 := [.own (encBag β1), .d (tupD r), .d (.int 1), .no, .no]) (Γ2 := [.own (encBag β2), .d (tupD r), .d (.int 1), .no, .no]) (ss := [.bor 0, .d (.int r.length)]) (ac_p (ev_vo rfl) (ac_p (by simp [tupD]) rfl)) rfl e2) rfl) ?_
      have ec : mCall 3 F1 (mAc (mVar 0) (mAc (mBin gIx (mVar 1) (mVar 3)) (mAc (mBin gSub (mVar 2) (mC (.int 1))) mA0))) [.own (encBag β2), .d (tupD r), .d (.int 1), .d (.int i), .no] = some (.d y, [.own (encBag β3), .d (tupD r), .d (.int 1), .d (.int i), .no]) := call_of (Γ1 := [.own (encBag β2), .d (tupD r), .d (.int 1), .d (.int i), .no]) (ss := [.bor 0, .d (.int r[i]), .d (.int 0)]) (ac_p (ev_vo rfl) (ac_p (by simp [hat, tupD]) (ac_p (by simp) rfl))) rfl e3
      generalize mCall 3 F1 (mAc (mVar 0) (mAc (mBin gIx (mVar 1) (mVar 3)) (mAc (mBin gSub (mVar 2) (mC (.int 1))) mA0))) = mc at ec ⊢
      refine ret_of (s := .d (.tuple ((r.map PyData.int).take i ++ y :: (r.map PyData.int).drop (i + 1)))) (Γ1 := [.own (encBag β3), .d (tupD r), .d (.int 1), .d (.int i), .no]) ?_ rfl
      have g2 : min i r.length ≤ 999999 := by omega
      have g3 : min i r.length + 1 + (r.length - (i + 1)) ≤ 1000000 := by omega
      simp only [tupD] at ec ⊢
      simp [ec, cut_take, cut_drop1, g2, g3]
  · have hv0 : v = 0 := by omega
    subst hv0
    obtain ⟨y, β3, e3, h3⟩ := e_odd h2
    obtain ⟨z, β4, _, h4, e4⟩ := e_some_own (l := [.list (r.map PyData.int), .tuple ((r.map PyData.int).take i ++ (r.map PyData.int).drop (i + 1)), .tuple ((r.map PyData.int).take i ++ .int r[i] :: (r.map PyData.int).drop i), .tuple (r.map PyData.int).reverse, y]) h3 (by simp) (by simp)
    refine ⟨z, β4, ?_, h4⟩
    generalize F__law_bent 1 = F1
    refine ev_runx [.own (encBag β4), .d (tupD r), .d (.int 1), .d (.int i), .d (.tuple ((r.map PyData.int).take i ++ .int r[i] :: (r.map PyData.int).drop i))] ?_
    refine seq_nx (if_no (Γ1 := [.own (encBag β1), .d (tupD r), .d (.int 1), .no, .no]) ?_) ?_
    · have et : mCall 2 F__law_take (mAc (mVar 0) (mAc (mC (.int 4)) mA0)) [.own (encBag β), .d (tupD r), .d (.int 1), .no, .no] = some (.d (.int 0), [.own (encBag β1), .d (tupD r), .d (.int 1), .no, .no]) := call_of (ac_of (ev_vo rfl) (ac_of rfl rfl)) rfl e1
      have hi2 : isTy .tup (tupD r) = true := rfl
      generalize mCall 2 F__law_take (mAc (mVar 0) (mAc (mC (.int 4)) mA0)) = mc at et ⊢
      simp [hi2, truD, gNe, eN, gGt, et]
    refine seq_nx (if_no (Γ1 := [.own (encBag β1), .d (tupD r), .d (.int 1), .no, .no]) (by simp [isTy, truD, tupD])) ?_
    refine seq_nx (if_no (Γ1 := [.own (encBag β1), .d (tupD r), .d (.int 1), .no, .no]) (by simp [isTy, truD, tupD])) ?_
    have hc : mAndT (mTru (mIsi .tup (mVar 1))) (mB (mBin gNe (mVar 1) (mTup mD0))) [.own (encBag β1), .d (tupD r), .d (.int 1), .no, .no] = some (true, [.own (encBag β1), .d (tupD r), .d (.int 1), .no, .no]) := by
      have hi2 : isTy .tup (tupD r) = true := rfl
      simp [hi2, truD, gNe, eN]
    refine seq_ret ((ifs_of hc).trans ?_)
    refine seq_nx (set_of (s := .d (.int i)) (call_of (Γ1 := [.own (encBag β1), .d (tupD r), .d (.int 1), .no, .no]) (Γ2 := [.own (encBag β2), .d (tupD r), .d (.int 1), .no, .no]) (ss := [.bor 0, .d (.int r.length)]) (ac_p (ev_vo rfl) (ac_p (by simp [tupD]) rfl)) rfl e2) rfl) ?_
    have g2 : min i r.length ≤ 999999 := by omega
    have g3 : min i r.length + 1 + (r.length - i) ≤ 1000000 := by omega
    have g4 : min i r.length + (r.length - (i + 1)) ≤ 1000000 := by omega
    refine seq_nx (set_of (s := .d (.tuple ((r.map PyData.int).take i ++ .int r[i] :: (r.map PyData.int).drop i))) (Γ1 := [.own (encBag β2), .d (tupD r), .d (.int 1), .d (.int i), .no]) (by simp [tupD, cut_take, cut_drop, hat, g2, g3]) rfl) ?_
    refine ret_of (s := .d z) (call_of (Γ1 := [.own (encBag β3), .d (tupD r), .d (.int 1), .d (.int i), .d (.tuple ((r.map PyData.int).take i ++ .int r[i] :: (r.map PyData.int).drop i))]) (ss := [.bor 0, .own (.lst [.list (r.map PyData.int), .tuple ((r.map PyData.int).take i ++ (r.map PyData.int).drop (i + 1)), .tuple ((r.map PyData.int).take i ++ .int r[i] :: (r.map PyData.int).drop i), .tuple (r.map PyData.int).reverse, y])]) (ac_of (ev_vo rfl) (ac_of ?_ rfl)) rfl e4) rfl
    have ec : mCall 1 F__law_odd (mAc (mVar 0) mA0) [.own (encBag β2), .d (tupD r), .d (.int 1), .d (.int i), .d (.tuple ((r.map PyData.int).take i ++ .int r[i] :: (r.map PyData.int).drop i))] = some (.d y, [.own (encBag β3), .d (tupD r), .d (.int 1), .d (.int i), .d (.tuple ((r.map PyData.int).take i ++ .int r[i] :: (r.map PyData.int).drop i))]) := call_of (ac_of (ev_vo rfl) rfl) rfl e3
    generalize hq : PyData.tuple ((r.map PyData.int).take i ++ .int r[i] :: (r.map PyData.int).drop i) = q at ec ⊢
    generalize mCall 1 F__law_odd (mAc (mVar 0) mA0) = mc at ec ⊢
    simp only [tupD] at ec ⊢
    simp [gRev, ec, cut_take, cut_drop1, g4]
end K22

set_option Elab.async false
set_option linter.all false
set_option maxRecDepth 100000
set_option maxHeartbeats 4000000
namespace K22
open PySem DL
/-! ### held against each other -/
theorem okAll_eq (l : List Dat) : okAll l = l.all okA := by
  induction l with
  | nil => rfl
  | cons d r ih => rw [okAll, ih, List.all_cons]
theorem okA_list (l : List Dat) : okA (.list l) = l.all okA := okAll_eq l
theorem okA_tuple (l : List Dat) : okA (.tuple l) = l.all okA := okAll_eq l
theorem okA_tupD (l : List Int) : okA (tupD l) = true := by
  unfold tupD
  rw [okA_tuple, List.all_map]
  exact List.all_eq_true.mpr fun x _ => rfl
theorem okA_map {α : Type} {f : α → Dat} {l : List α} (h : ∀ x ∈ l, okA (f x) = true) : (l.map f).all okA = true := by
  rw [List.all_map]
  exact List.all_eq_true.mpr h
theorem szA_list (l : List Dat) : szA (.list l) = szAll l + 1 := rfl
theorem szA_tuple (l : List Dat) : szA (.tuple l) = szAll l + 1 := rfl
theorem szAll_map {α : Type} {f : α → Dat} {c : Nat} : ∀ {l : List α}, (∀ x ∈ l, szA (f x) ≤ c) → szAll (l.map f) ≤ l.length * c
  | [], _ => Nat.zero_le _
  | x :: r, h => by
    have := szAll_map (l := r) (fun x hx => h x (List.mem_cons_of_mem _ hx))
    have h1 := h x (by simp)
    rw [List.map_cons, szAll, List.length_cons, Nat.add_mul]
    omega
theorem szA_tupD (l : List Int) : szA (tupD l) = l.length + 1 := by
  unfold tupD
  rw [szA_tuple]
  congr 1
  induction l with
  | nil => rfl
  | cons x r ih => rw [List.map_cons, szAll, ih, List.length_cons, show szA (.int x) = 1 from rfl]; omega
theorem szA_bool (c : Bool) : szA (.bool c) = 1 := rfl
theorem szA_int (c : Int) : szA (.int c) = 1 := rfl
theorem szA_none : szA .none = 1 := rfl
theorem szA_str (c : Str) : szA (.str c) = 1 := rfl
/-- two that are the same -/
theorem alike_of {a b : M} {Γ Γ1 Γ2 Γ3 : DL.Env} {s t s' t' : DL.Slot} {d : Dat} (h1 : a Γ = some (s, Γ1)) (h2 : b Γ1 = some (t, Γ2)) (ha : argsS Γ2 [s, t] = some [s', t']) (hs : IsS s' d) (ht : IsS t' d) (ho : okA d = true) (hz : szA d ≤ 800000)
    (h3 : backS Γ2 [s, t] [.d d, .d d] = Γ3 := by rfl) (hb : (borIx [s, t]).Nodup := by simp) : mCall 2 F__law_alike (mAc a (mAc b mA0)) Γ = some (.d (.bool true), Γ3) :=
  call_of (ac_of h1 (ac_of h2 rfl)) ha (e_alike hs ht ho hz) h3 rfl rfl hb rfl
theorem alike_no {a b : M} {x : MS} {Γ Γ1 Γ2 Γ3 : DL.Env} {s t s' t' : DL.Slot} {d : Dat} (h1 : a Γ = some (s, Γ1)) (h2 : b Γ1 = some (t, Γ2)) (ha : argsS Γ2 [s, t] = some [s', t']) (hs : IsS s' d) (ht : IsS t' d) (ho : okA d = true) (hz : szA d ≤ 800000)
    (h3 : backS Γ2 [s, t] [.d d, .d d] = Γ3 := by rfl) (hb : (borIx [s, t]).Nodup := by simp) : mIfS (mNotT (mTru (mCall 2 F__law_alike (mAc a (mAc b mA0))))) x mNext Γ = some (.nx, Γ3) :=
  if_no (not_tru (alike_of h1 h2 ha hs ht ho hz h3 hb))
/-! ### displays -/
section
variable {Γ Γ1 Γ2 Γ3 : DL.Env}
theorem dc_d {m : M} {r : MD} {d : Dat} {l : List Dat} (h1 : m Γ = some (.d d, Γ1)) (h2 : r Γ1 = some (l, Γ2)) : mDc m r Γ = some (d :: l, Γ2) := by
  unfold mDc
  rw [h1]
  simp only [Option.bind_some, ev_setd]
  rw [h2]
  rfl
theorem dc_o {m : M} {r : MD} {o : Own} {l : List Dat} (h1 : m Γ = some (.own o, Γ1)) (h2 : r Γ1 = some (l, Γ2)) : mDc m r Γ = some (o.dat :: l, Γ2) := by
  unfold mDc
  rw [h1]
  simp only [Option.bind_some, ev_seto]
  rw [h2]
  rfl
theorem lst_of {md : MD} {l : List Dat} (h : md Γ = some (l, Γ1)) (hl : l.length ≤ 1000000) : mLst md Γ = some (.own (.lst l), Γ1) := by
  unfold mLst
  rw [h]
  simp only [Option.bind_some, lim_eq]
  rw [if_pos hl]
theorem tup_of {md : MD} {l : List Dat} (h : md Γ = some (l, Γ1)) (hl : l.length ≤ 1000000) : mTup md Γ = some (.d (.tuple l), Γ1) := by
  unfold mTup
  rw [h]
  simp only [Option.bind_some, lim_eq]
  rw [if_pos hl]
end
/-! ### indexes -/
theorem zipIdx_eq (r : List Int) : r.zipIdx = (List.range r.length).map fun i => ((r[i]?).getD 0, i) := by
  refine List.ext_getElem (by simp) fun i h1 h2 => ?_
  have h3 : i < r.length := by simpa using h1
  simp [h3]
theorem idxs_eq (p : Int × Nat → Bool) (r : List Int) : idxs p r = castN ((List.range r.length).filter fun i => p ((r[i]?).getD 0, i)) := by
  unfold idxs castN
  rw [zipIdx_eq, List.filter_map, List.map_map]
  rfl
theorem castN_mem {l : List Nat} {i : Nat} : ((i : Int) ∈ castN l) ↔ i ∈ l := by
  unfold castN
  rw [List.mem_map]
  constructor
  · rintro ⟨j, hj, e⟩
    have : j = i := by omega
    exact this ▸ hj
  · exact fun h => ⟨i, h, rfl⟩
theorem rd_get {b : Bk} {r : List Int} (hr : OkR b r) {i : Nat} (hi : i < r.length) : -1 ≤ (r[i]?).getD 0 := by
  rw [List.getElem?_eq_getElem hi]
  obtain ⟨t, _, q⟩ := each_mem hr (List.getElem_mem hi)
  exact q.1
theorem unread_eq {b : Bk} {r : List Int} (hr : OkR b r) : idxs (fun q => decide (q.1 < 0)) r = idxs (fun q => q.1 == -1) r := by
  rw [idxs_eq, idxs_eq]
  congr 1
  refine List.filter_congr fun i hi => ?_
  have := rd_get hr (List.mem_range.mp hi)
  by_cases h : (r[i]?).getD 0 = -1
  · simp [h]
  · have h2 : ¬ (r[i]?).getD 0 < 0 := by omega
    simp [h, h2]
theorem read_eq (r : List Int) : ((List.range r.length).filter fun i : Nat => !(idxs (fun q => q.1 == -1) r).contains (i : Int)) = (List.range r.length).filter fun i : Nat => (r[i]?).getD 0 != -1 := by
  refine List.filter_congr fun i hi => ?_
  rw [idxs_eq]
  have h : ((i : Int) ∈ castN ((List.range r.length).filter fun i => (r[i]?).getD 0 == -1)) ↔ (r[i]?).getD 0 = -1 := by
    rw [castN_mem, List.mem_filter]
    simp only [hi, true_and, beq_iff_eq]
  by_cases q : (r[i]?).getD 0 = -1
  · rw [List.contains_iff_mem.mpr (h.mpr q)]
    simp [q]
  · have : ¬ ((i : Int) ∈ castN ((List.range r.length).filter fun i => (r[i]?).getD 0 == -1)) := fun z => q (h.mp z)
    rw [show (castN ((List.range r.length).filter fun i => (r[i]?).getD 0 == -1)).contains (i : Int) = false from by simpa using this]
    simp [q]
@[simp] theorem ev_inIl (neg : Bool) (x : Int) (r : List Int) : inD neg (.int x) (.list (r.map PyData.int)) = some (.bool (if neg then !r.contains x else r.contains x)) := ev_inI neg x r
/-! ### what goes on -/
def goesI (r o : List Int) : Bool := (r.zip o).all fun q => q.1 == -1 || q.1 == q.2
theorem e_goes {r o : List Int} (hl : r.length ≤ 1000) : F_goes_on [.d (tupD r), .d (tupD o)] = some (.d (.bool (goesI r o)), [.d (tupD r), .d (tupD o)]) := by
  have e := lc_pure (mi := mZip (mVar 0) (mVar 1)) (g := setT 2 (setC (setS 2) (setC (setS 3) setN))) (mt := mYes) (me := mBin gIn (mVar 2) (mTup (mDc (mC (.int (-1))) (mDc (mVar 3) mD0)))) (vs := [2, 3]) (Γ := [.d (tupD r), .d (tupD o), .no, .no]) (ts := r.zip o) encP (fun q => some (.bool (q.1 == -1 || q.1 == q.2))) (by simp [tupD, zip_ints]) rfl (by
    rintro ⟨x, y⟩ _
    have e := ev_inI false x [-1, y]
    simp only [tupD, List.map_cons, List.map_nil] at e
    have e2 : [-1, y].contains x = (x == -1 || x == y) := by rw [List.contains_cons, List.contains_cons]; simp
    rw [e2] at e
    simp [lcStep, encP, gIn, e]) (by rw [List.length_zip]; show _ ≤ 1000000; omega)
  have ef : (r.zip o).filterMap (fun q => some (PyData.bool (q.1 == -1 || q.1 == q.2))) = ((r.zip o).map fun q => q.1 == -1 || q.1 == q.2).map PyData.bool := by
    rw [List.filterMap_eq_map', List.map_map]
    rfl
  rw [ef] at e
  refine ev_runx [.d (tupD r), .d (tupD o), .no, .no] (ret_of (s := .d (.bool (goesI r o))) (un_of e ?_) rfl)
  simp only [gSc1, ev_viewo, ev_datl, Option.bind_some, allD_map, goesI]
  rw [List.all_map]
  rfl
theorem goes_le {sh : List (List Int)} : ∀ {r o : List Int}, r.length = sh.length → o.length = sh.length → goesI r o = true → missC sh r ≤ missC sh o := by
  induction sh with
  | nil => intro r o _ _ _; cases r <;> simp [missC]
  | cons c sh ih =>
    intro r o h1 h2 h3
    cases r with
    | nil => cases h1
    | cons x r =>
      cases o with
      | nil => cases h2
      | cons y o =>
        unfold goesI at h3 ih
        rw [List.zip_cons_cons, List.all_cons, Bool.and_eq_true] at h3
        have := ih (r := r) (o := o) (by simpa using h1) (by simpa using h2) h3.2
        have h4 := h3.1
        simp only [Bool.or_eq_true, beq_iff_eq] at h4
        rw [missC, missC]
        rcases h4 with h4 | h4
        · rw [if_neg (fun z => z.1 h4)]; omega
        · subst h4; omega
theorem goes_told {b : Bk} {r o : List Int} (hb : OkBk b) (hr : OkR b r) (ho : OkR b o) (hg : goesI r o = true) : ∀ k ∈ toldN b o, k ∈ toldN b r := by
  intro k hk
  unfold toldN at hk ⊢
  rw [List.mem_filter] at hk ⊢
  refine ⟨hk.1, ?_⟩
  have hlt := List.mem_range.mp hk.1
  obtain ⟨_, _, _, _, h4, _, _, h7, _⟩ := rd_ok hb hr hlt
  obtain ⟨_, _, _, _, h4', _, _, h7', _⟩ := rd_ok hb ho hlt
  have l1 : r.length = (showsK b k).length := by rw [h7]; exact h4
  have l2 : o.length = (showsK b k).length := by rw [h7']; exact h4'
  have h := hk.2
  unfold fitK missK at h ⊢
  rw [missI_len l2, decide_eq_true_eq] at h
  rw [missI_len l1, decide_eq_true_eq]
  have := goes_le l1 l2 hg
  omega
def wentI (r o : List Int) : List (Int × Int) := (r.zip o).filter fun q => decide (0 ≤ q.1) && decide (q.1 ≠ q.2)
theorem went_eq {b : Bk} {r o : List Int} (hr : OkR b r) : (wentI r o).isEmpty = goesI r o := by
  have h : ∀ x ∈ r, -1 ≤ x := fun x hx => by
    obtain ⟨t, _, q⟩ := each_mem hr hx
    exact q.1
  clear hr
  unfold wentI goesI
  induction r generalizing o with
  | nil => rfl
  | cons x r ih =>
    cases o with
    | nil => rfl
    | cons y o =>
      have i := ih (o := o) fun z hz => h z (List.mem_cons_of_mem _ hz)
      have hx := h x (by simp)
      rw [List.zip_cons_cons, List.filter_cons, List.all_cons, ← i]
      by_cases h1 : x = -1
      · subst h1
        simp
      · have h0 : 0 ≤ x := by omega
        by_cases h2 : x = y
        · subst h2; simp
        · have h3 : ¬ (x == -1 || x == y) = true := by simp [h1, h2]
          simp [h0, h1, h2]
theorem putAt_ok {b : Bk} {r : List Int} {i : Nat} {t : Str × Int × Int} {x : Int} (hr : OkR b r) (ht : b.traits[i]? = some t) (h0 : -1 ≤ x) (h1 : x ≤ t.2.1) : OkR b (putAt r i x) := each_putR hr ht ⟨h0, h1⟩
theorem unr_empty (r : List Int) : (idxs (fun q => q.1 == -1) r).isEmpty = !r.contains (-1) := by
  rw [idxs_eq]
  by_cases h : (-1 : Int) ∈ r
  · obtain ⟨i, hi, e⟩ := List.getElem_of_mem h
    rw [List.contains_iff_mem.mpr h]
    have : i ∈ (List.range r.length).filter fun i => (r[i]?).getD 0 == -1 := List.mem_filter.mpr ⟨List.mem_range.mpr hi, by rw [List.getElem?_eq_getElem hi, e]; rfl⟩
    cases e2 : (List.range r.length).filter fun i => (r[i]?).getD 0 == -1 with
    | nil => rw [e2] at this; cases this
    | cons _ _ => rfl
  · have : ((List.range r.length).filter fun i => (r[i]?).getD 0 == -1) = [] := List.filter_eq_nil_iff.mpr fun i hi z => h (by
      have hl := List.mem_range.mp hi
      rw [List.getElem?_eq_getElem hl] at z
      have z2 : r[i] = -1 := by simpa using z
      rw [← z2]
      exact List.getElem_mem hl)
    rw [this, show r.contains (-1) = false from by simpa using h]
    rfl
theorem read_map (r : List Int) : (((List.range r.length).filter fun i : Nat => !(idxs (fun q => q.1 == -1) r).contains (i : Int)).map fun i : Nat => PyData.int i) = (idxs (fun q => q.1 != -1) r).map PyData.int := by
  rw [read_eq, idxs_eq (fun q => q.1 != -1)]
  unfold castN
  rw [List.map_map]
  rfl
theorem isRd_ok {b : Bk} {r : List Int} (hr : OkR b r) : isRd b (tupD r) = true := by
  have hl := each_len hr
  have : ∀ (ts : List (Str × Int × Int)) (r : List Int), PySem.W.EachIs (fun t x => -1 ≤ x ∧ x ≤ t.2.1) ts r → ((ts.zip (r.map PyData.int)).all fun q => wI (-1) q.1.2.1 q.2) = true := fun ts r h => by
    induction h with
    | nil => rfl
    | cons q _ ih => rw [List.map_cons, List.zip_cons_cons, List.all_cons, ih]; simp [wI, q.1, q.2]
  show (decide ((r.map PyData.int).length = b.traits.length) && _) = true
  rw [this _ _ hr, List.length_map, decide_eq_true hl.symm]
  rfl
end K22

set_option Elab.async false
set_option linter.all false
set_option maxRecDepth 100000
set_option maxHeartbeats 4000000
namespace K22
open PySem DL
abbrev E19 (s0 s1 s2 s3 s4 s5 s6 s8 s9 s11 s12 s14 s15 s18 : DL.Slot) : DL.Env := [s0, s1, s2, s3, s4, s5, s6, .no, s8, s9, .no, s11, s12, .no, s14, s15, .no, .no, s18]
section
variable {s0 s3 s4 s5 s6 s8 s9 s11 s12 s14 s15 s18 : DL.Slot} {B R : Dat}
/-- what a def tells of each kind -/
theorem each_kind {F : FS} {n : Nat} {v : Nat → Dat} (hF : ∀ k, k < n → F [.d B, .d (.int k), .d R] = some (.d (v k), [.d B, .d (.int k), .d R])) (hn : n ≤ 1000)
    (h3 : s3 = .own (.lst ((List.range n).map fun k : Nat => PyData.int k)) ∨ s3 = .d (.list ((List.range n).map fun k : Nat => PyData.int k))) :
    mLc (mSeqI (mVar 3)) (setS 7) mYes (mCall 3 F (mAc (mVar 1) (mAc (mVar 7) (mAc (mVar 2) mA0)))) [7] (E19 s0 (.d B) (.d R) s3 s4 s5 s6 s8 s9 s11 s12 s14 s15 s18) =
      some (.own (.lst ((List.range n).map v)), E19 s0 (.d B) (.d R) (.d (.list ((List.range n).map fun k : Nat => PyData.int k))) s4 s5 s6 s8 s9 s11 s12 s14 s15 s18) := by
  exact lc_map (mi := mSeqI (mVar 3)) (g := setS 7) (me := mCall 3 F (mAc (mVar 1) (mAc (mVar 7) (mAc (mVar 2) mA0)))) (vs := [7]) (Γ := E19 s0 (.d B) (.d R) s3 s4 s5 s6 s8 s9 s11 s12 s14 s15 s18) (Γ0 := E19 s0 (.d B) (.d R) (.d (.list ((List.range n).map fun k : Nat => PyData.int k))) s4 s5 s6 s8 s9 s11 s12 s14 s15 s18) (ts := List.range n) (fun k : Nat => .int k) v
    (by rcases h3 with rfl | rfl <;> simp [E19]) rfl (fun k hk => by
      have h := hF k (List.mem_range.mp hk)
      simp [lcStep, E19, ev_CallX, h]) (by rw [List.length_range]; show _ ≤ 1000000; omega)
end
theorem okB (c : Bool) : okA (.bool c) = true := rfl
theorem miss_len {sh : List (List Int)} {r : List Int} : (missI sh r).length ≤ r.length := by
  unfold missI idxs
  rw [List.length_map]
  exact Nat.le_trans (List.length_filter_le _ _) (by simp)
theorem castN_len (l : List Nat) : (castN l).length = l.length := by unfold castN; rw [List.length_map]
theorem okG {b : Bk} (hb : OkBk b) {lot : List Nat} (hl : ∀ k ∈ lot, k < b.kinds.length) : ∀ x ∈ groupsN b lot, okA (.str x) = true := by
  intro x hx
  unfold groupsN at hx
  rw [sortU_mem] at hx
  obtain ⟨k, hk, rfl⟩ := List.mem_map.mp hx
  have hlt := hl k hk
  have hm : b.kinds[k] ∈ b.kinds := List.getElem_mem hlt
  have hg := (hb.2.2.2.1 _ hm).2
  have e : groupK b k = (b.kinds[k]).2.1 := by simp [groupK, List.getElem?_eq_getElem hlt]
  rw [e]
  rcases hg with h | h <;> rw [h] <;> decide +kernel
theorem groups_len {b : Bk} {lot : List Nat} : (groupsN b lot).length ≤ lot.length := by
  have h : (groupsN b lot).Nodup := sortU_nodup _
  have := nodup_le (m := lot.map (groupK b)) h fun x hx => sortU_mem.mp hx
  rwa [List.length_map] at this
theorem oneD_ok {l : List Dat} (h : ∀ x ∈ l, okA x = true) : okA (oneD l) = true := by
  match l with
  | [] => rfl
  | [x] => exact h x (by simp)
  | _ :: _ :: _ => rfl
theorem oneD_sz {l : List Dat} (h : ∀ x ∈ l, szA x ≤ 1) : szA (oneD l) ≤ 1 := by
  match l with
  | [] => exact Nat.le_refl _
  | [x] => exact h x (by simp)
  | _ :: _ :: _ => exact Nat.le_refl _
section
variable {s0 s1 s2 s3 s4 s5 s6 s8 s9 s11 s12 s14 s15 s18 : DL.Slot} {b : Bk} {r : List Int}
theorem s_read {U : List Int} {j : Nat} : lcStep (setS 10) (mB (mBin gNin (mVar 10) (mVar 8))) (mVar 10) [10] (.int j) (wipeE (E19 s0 s1 s2 s3 s4 s5 s6 (.own (.lst (U.map PyData.int))) s9 s11 s12 s14 s15 s18) [10]) = some (if !U.contains (j : Int) then some (.int j) else none, wipeE (E19 s0 s1 s2 s3 s4 s5 s6 (.own (.lst (U.map PyData.int))) s9 s11 s12 s14 s15 s18) [10]) := by
  have e := ev_inIl true (j : Int) U
  cases h : U.contains (j : Int) <;> simp only [h, if_true, Bool.not_true, Bool.not_false] at e <;> simp [lcStep, E19, gNin, e]
theorem s_nexts {F : FS} {i : Nat} {t : Str × Int × Int} (hF : ∀ x : Int, F [.d (tupD r), .d (.int i), .d (.int x)] = some (.d (tupD (putAt r i x)), [.d (tupD r), .d (.int i), .d (.int x)])) (ht : b.traits[i]? = some t) (h0 : 1 ≤ t.2.1) (h1 : t.2.1 ≤ 2) :
    mLc (mRange1 (mBin gAdd (mBin gIx (mBin gIx (mBin gIx (mVar 1) (mC (.int 2))) (mVar 11)) (mC (.int 1))) (mC (.int 1)))) (setS 13) mYes (mCall 3 F (mAc (mVar 2) (mAc (mVar 11) (mAc (mVar 13) mA0)))) [13] (E19 s0 (.d (encB b)) (.d (tupD r)) s3 s4 s5 s6 s8 s9 (.d (.int i)) s12 s14 s15 s18) = some (.own (.lst ((rngI (t.2.1 + 1)).map fun x => tupD (putAt r i x))), E19 s0 (.d (encB b)) (.d (tupD r)) s3 s4 s5 s6 s8 s9 (.d (.int i)) s12 s14 s15 s18) := by
  have atT : L2.atI (b.traits.map encT) (i : Int) = some (encT t) := atI_nat (by rw [List.getElem?_map, ht]; rfl)
  refine lc_map (Γ0 := E19 s0 (.d (encB b)) (.d (tupD r)) s3 s4 s5 s6 s8 s9 (.d (.int i)) s12 s14 s15 s18) PyData.int (fun x => tupD (putAt r i x)) (rng_x (x := t.2.1 + 1) ?_ (by omega) (by omega)) rfl (fun x _ => ?_) (by rw [rngI_len]; show _ ≤ 1000000; omega)
  · simp [E19, encB, atT, encT]
  · simp [lcStep, E19, ev_CallX, hF x]
theorem e_nexts {i : Nat} {t : Str × Int × Int} (hi : i < r.length) (hl : r.length ≤ 4) (ht : b.traits[i]? = some t) (h0 : 1 ≤ t.2.1) (h1 : t.2.1 ≤ 2) : F_next_readings [.d (encB b), .d (tupD r), .d (.int i)] = some (.own (.lst ((rngI (t.2.1 + 1)).map fun x => tupD (putAt r i x))), [.d (encB b), .d (tupD r), .d (.int i)]) := by
  have atT : L2.atI (b.traits.map encT) (i : Int) = some (encT t) := atI_nat (by rw [List.getElem?_map, ht]; rfl)
  have hF : ∀ x : Int, F_with_read [.d (tupD r), .d (.int i), .d (.int x)] = some (.d (tupD (putAt r i x)), [.d (tupD r), .d (.int i), .d (.int x)]) := fun x => e_with hi (by omega)
  unfold F_next_readings
  generalize F_with_read = F at hF ⊢
  refine ev_runx [.d (encB b), .d (tupD r), .d (.int i), .no] (ret_of (s := .own (.lst ((rngI (t.2.1 + 1)).map fun x => tupD (putAt r i x)))) (Γ1 := [.d (encB b), .d (tupD r), .d (.int i), .no]) (lc_map (Γ0 := [.d (encB b), .d (tupD r), .d (.int i), .no]) PyData.int (fun x => tupD (putAt r i x)) (rng_x (x := t.2.1 + 1) ?_ (by omega) (by omega)) rfl (fun x _ => ?_) (by rw [rngI_len]; show _ ≤ 1000000; omega)) rfl)
  · simp [encB, atT, encT]
  · simp [lcStep, ev_CallX, hF x]
theorem s_due {o : List Int} (hr : OkR b r) (hl : r.length ≤ 4) : mBin gEq (mLc (mZip (mVar 2) (mVar 14)) (setT 2 (setC (setS 16) (setC (setS 17) setN))) (mAndT (mB (mBin gGe (mVar 16) (mC (.int 0)))) (mB (mBin gNe (mVar 16) (mVar 17)))) (mC (.int 1)) [16, 17]) (mLst mD0) (E19 s0 s1 (.d (tupD r)) s3 s4 s5 s6 s8 s9 s11 s12 (.d (tupD o)) s15 s18) = some (.d (.bool (goesI r o)), E19 s0 s1 (.d (tupD r)) s3 s4 s5 s6 s8 s9 s11 s12 (.d (tupD o)) s15 s18) := by
  have e := lc_filter (mi := mZip (mVar 2) (mVar 14)) (g := setT 2 (setC (setS 16) (setC (setS 17) setN))) (mt := mAndT (mB (mBin gGe (mVar 16) (mC (.int 0)))) (mB (mBin gNe (mVar 16) (mVar 17)))) (me := mC (.int 1)) (vs := [16, 17]) (Γ := E19 s0 s1 (.d (tupD r)) s3 s4 s5 s6 s8 s9 s11 s12 (.d (tupD o)) s15 s18) (Γ0 := E19 s0 s1 (.d (tupD r)) s3 s4 s5 s6 s8 s9 s11 s12 (.d (tupD o)) s15 s18) (ts := r.zip o) encP (fun q => decide (0 ≤ q.1) && decide (q.1 ≠ q.2)) (fun _ => .int 1) (by simp [E19, tupD, zip_ints]) rfl (by
    rintro ⟨x, y⟩ _
    by_cases h1 : 0 ≤ x <;> by_cases h2 : x = y <;> simp [lcStep, E19, encP, gGe, gNe, h1, h2]) (by rw [List.length_zip]; show _ ≤ 1000000; omega)
  have e2 := ev_eqb0 ((wentI r o).map fun _ => (1 : Int))
  rw [List.map_map] at e2
  refine bin_of e (show mLst mD0 _ = some (.own (.lst []), _) from lst_of rfl (by simp)) ?_
  rw [← went_eq hr]
  have e3 : eqD (.list (List.map (fun _ => PyData.int 1) (wentI r o))) (.list []) = some (.bool (wentI r o).isEmpty) := by
    rw [show (wentI r o).isEmpty = ((wentI r o).map fun _ => (1 : Int)).isEmpty from by cases wentI r o <;> rfl]
    exact e2
  simp only [gEq, gSc, ev_viewo, ev_datl, Option.bind_some]
  erw [e3]
  rfl
theorem s_go {LT : Dat} {o : List Int} (hb : OkBk b) (hr : OkR b r) (ho : OkR b o) (hLT : tupD (castN (toldN b r)) = LT) (hl : r.length ≤ 1000) :
    mOrT (mNotT (mTru (mCall 2 F__law_alike (mAc (mCall 2 F_goes_on (mAc (mVar 2) (mAc (mVar 14) mA0))) (mAc (mVar 15) mA0))))) (mAndT (mTru (mVar 15)) (mB (mBin gNe (mLc (mSeqI (mCall 2 F_told (mAc (mVar 1) (mAc (mVar 14) mA0)))) (setS 7) (mB (mBin gNin (mVar 7) (mVar 4))) (mVar 7) [7]) (mLst mD0)))) (E19 s0 (.d (encB b)) (.d (tupD r)) s3 (.d LT) s5 s6 s8 s9 s11 s12 (.d (tupD o)) (.d (.bool (goesI r o))) s18) = some (false, E19 s0 (.d (encB b)) (.d (tupD r)) s3 (.d LT) s5 s6 s8 s9 s11 s12 (.d (tupD o)) (.d (.bool (goesI r o))) s18) := by
  have h7 := hb.2.2.1
  refine or_no (not_tru (alike_of (call2 (ev_vd rfl) (ev_vd rfl) (e_goes hl) rfl) (ev_vd rfl) rfl .d .d rfl (by simp [szA]))) ?_
  have et : mTru (mVar 15) (E19 s0 (.d (encB b)) (.d (tupD r)) s3 (.d LT) s5 s6 s8 s9 s11 s12 (.d (tupD o)) (.d (.bool (goesI r o))) s18) = some (goesI r o, E19 s0 (.d (encB b)) (.d (tupD r)) s3 (.d LT) s5 s6 s8 s9 s11 s12 (.d (tupD o)) (.d (.bool (goesI r o))) s18) := tru_of (ev_vd rfl)
  cases hg : goesI r o with
  | false => rw [hg] at et; exact and_no et
  | true =>
    have hs := goes_told hb hr ho hg
    rw [hg] at et
    refine and_yes et (mB_of ?_)
    have eo := e_told hb ho
    have e := lc_filter (mi := mSeqI (mCall 2 F_told (mAc (mVar 1) (mAc (mVar 14) mA0)))) (g := setS 7) (mt := mB (mBin gNin (mVar 7) (mVar 4))) (me := mVar 7) (vs := [7]) (Γ := E19 s0 (.d (encB b)) (.d (tupD r)) s3 (.d LT) s5 s6 s8 s9 s11 s12 (.d (tupD o)) (.d (.bool true)) s18) (Γ0 := E19 s0 (.d (encB b)) (.d (tupD r)) s3 (.d LT) s5 s6 s8 s9 s11 s12 (.d (tupD o)) (.d (.bool true)) s18) (ts := toldN b o) (fun k : Nat => .int k) (fun _ => false) (fun k : Nat => .int k) (by
        have ec := call2 (Γ := E19 s0 (.d (encB b)) (.d (tupD r)) s3 (.d LT) s5 s6 s8 s9 s11 s12 (.d (tupD o)) (.d (.bool true)) s18) (a := mVar 1) (b := mVar 14) (ev_vd rfl) (ev_vd rfl) eo rfl
        simp only [ev_SeqI, ec, Option.bind_some, ev_setd, ev_seqr, cast_it]) rfl (fun k hk => by
        have h1 := ev_inI true (k : Int) (castN (toldN b r))
        rw [hLT, List.contains_iff_mem.mpr (castN_mem.mpr (hs k hk))] at h1
        simp only [if_true, Bool.not_true] at h1
        simp [lcStep, E19, gNin, h1]) (by have := told_len (b := b) (r := o); show _ ≤ 1000000; omega)
    refine bin_of e (show mLst mD0 _ = some (.own (.lst []), _) from lst_of rfl (by simp)) ?_
    have h0 : List.filter (fun _ : Nat => false) (toldN b o) = [] := List.filter_eq_nil_iff.mpr fun _ _ z => by cases z
    rw [h0]
    simp [gNe]
end
theorem e_right {β : Bag} {b : Bk} {r : List Int} (h : OkBag β) (hb : OkBk b) (hr : OkR b r) : ∃ β', F__law_reading_right [.own (encBag β), .d (encB b), .d (tupD r)] = some (.d (.bool true), [.own (encBag β'), .d (encB b), .d (tupD r)]) ∧ OkBag β' := by
  have h7 := hb.2.2.1
  have h24 := hb.1
  have hrl : b.traits.length = r.length := each_len hr
  have hl4 : r.length ≤ 4 := by have := h24.2.1; omega
  have hne : r ≠ [] := fun e => by have := h24.1; rw [e] at hrl; simp only [List.length_nil] at hrl; omega
  have hp : 0 < r.length := List.length_pos_iff.mpr hne
  obtain ⟨v, β1, e1, v0, v1, h1⟩ := e_take (n := r.length) h (by omega) (by omega)
  obtain ⟨i, rfl⟩ : ∃ i : Nat, v = i := ⟨v.toNat, by omega⟩
  have hi : i < r.length := by omega
  obtain ⟨t, ht⟩ : ∃ t, b.traits[i]? = some t := ⟨_, List.getElem?_eq_getElem (by omega)⟩
  have htm : t ∈ b.traits := List.mem_of_getElem? ht
  have ht2 := h24.2.2 t htm
  obtain ⟨r2, β2, e2, h2, hr2⟩ := e_reading h1 hb
  have atT : L2.atI (b.traits.map encT) (i : Int) = some (encT t) := atI_nat (by rw [List.getElem?_map, ht]; rfl)
  -- the readings that come of one by a look
  let nx : List Dat := (rngI (t.2.1 + 1)).map fun x => tupD (putAt r i x)
  have hnx : nx.length ≤ 3 := by
    show ((rngI (t.2.1 + 1)).map fun x => tupD (putAt r i x)).length ≤ 3
    rw [List.length_map]
    exact rngI_le (by omega)
  obtain ⟨od, β3, hod, h3, e3⟩ := e_some_own (l := tupD r2 :: nx) h2 (by simp) (by rw [List.length_cons]; omega)
  have hod2 : ∃ o, od = tupD o ∧ OkR b o := by
    rcases List.mem_cons.mp hod with rfl | hod
    · exact ⟨r2, rfl, hr2⟩
    · obtain ⟨x, hx, rfl⟩ := List.mem_map.mp hod
      have := rngI_mem.mp hx
      exact ⟨putAt r i x, rfl, putAt_ok hr ht (by omega) (by omega)⟩
  obtain ⟨o, rfl, ho⟩ := hod2
  obtain ⟨y, β4, e4, h4⟩ := e_bent2 h3 hne hl4
  refine ⟨β4, ?_, h4⟩
  have tl : (toldN b r).length ≤ 7 := Nat.le_trans told_len h7
  -- names for what is told
  generalize hLT : tupD (castN (toldN b r)) = LT
  have eT := e_told hb hr
  have eLT := e_ltold hb hr
  have eG := e_groups (b := b) (lot := toldN b r) told_lt (by omega)
  have eLG := e_lgroups (b := b) (lot := toldN b r) told_lt (by omega)
  have eK := e_sureK hb hr
  have eSG := e_sureG hb hr
  have eS := e_strange hb hr
  rw [hLT] at eT eLT eG eLG
  have okLT : okA LT = true := by rw [← hLT]; exact okA_tupD _
  have szLT : szA LT ≤ 8 := by rw [← hLT, szA_tupD, castN_len]; omega
  have gl : (groupsN b (toldN b r)).length ≤ 7 := Nat.le_trans groups_len tl
  have okGS := okG hb (lot := toldN b r) told_lt
  obtain ⟨GS, hGS⟩ : ∃ GS, GS = (groupsN b (toldN b r)).map PyData.str := ⟨_, rfl⟩
  obtain ⟨LI, hLI⟩ : ∃ LI, LI = (castN (toldN b r)).map PyData.int := ⟨_, rfl⟩
  obtain ⟨emp, hemp⟩ : ∃ emp, emp = (castN (toldN b r)).isEmpty := ⟨_, rfl⟩
  have hEq : eqD LT (.tuple []) = some (.bool emp) := by rw [← hLT, hemp]; exact ev_eqt0 _
  have s_emp : ∀ Γ : DL.Env, Γ[4]? = some (.d LT) → mBin gEq (mVar 4) (mTup mD0) Γ = some (.d (.bool emp), Γ) := fun Γ hg => bin_of (ev_vd hg) (tup_of rfl (by simp)) (by simp [gEq, hEq])
  have eU := e_unread (r := r) (by omega)
  rw [unread_eq hr] at eU
  have eIR := e_isrd hb (tupD r)
  rw [isRd_ok hr] at eIR
  have s_em : ∀ Γ : DL.Env, Γ[8]? = some (.own (.lst ((idxs (fun q => q.1 == -1) r).map PyData.int))) → gEq (.bor 8) (.own (.lst [])) Γ = some (.d (.bool (!r.contains (-1))), Γ) := fun Γ hg => by
    have e := ev_eqb0 (idxs (fun q => q.1 == -1) r)
    rw [unr_empty] at e
    simp only [gEq, gSc, ev_viewb, hg, ev_viewo, ev_datl, Option.bind_some, e]
  have eNX := e_nexts (b := b) hi hl4 ht ht2.1 ht2.2
  have ni : ∀ p : Int × Nat → Bool, (idxs p r).length ≤ 4 := fun p => by
    unfold idxs
    rw [List.length_map]
    exact Nat.le_trans (List.length_filter_le _ _) (by simpa using hl4)
  have szGS : ∀ x ∈ GS, szA x ≤ 1 := fun x hx => by
    rw [hGS] at hx
    obtain ⟨s, _, rfl⟩ := List.mem_map.mp hx
    exact Nat.le_refl _
  have szLI : ∀ x ∈ LI, szA x ≤ 1 := fun x hx => by
    rw [hLI] at hx
    obtain ⟨s, _, rfl⟩ := List.mem_map.mp hx
    exact Nat.le_refl _
  have okGS2 : ∀ x ∈ GS, okA x = true := fun x hx => by
    rw [hGS] at hx
    obtain ⟨s, hs, rfl⟩ := List.mem_map.mp hx
    exact okGS s hs
  have okLI : ∀ x ∈ LI, okA x = true := fun x hx => by
    rw [hLI] at hx
    obtain ⟨s, _, rfl⟩ := List.mem_map.mp hx
    rfl
  have gsl : szAll GS ≤ 7 := by
    have := szAll_map (f := PyData.str) (c := 1) (l := groupsN b (toldN b r)) fun x _ => Nat.le_refl _
    rw [← hGS] at this
    omega
  have hok1 : okA (.list [.list ((List.range b.kinds.length).map fun k => tupD (missK b k r)), .list ((List.range b.kinds.length).map fun k => .bool (fitK b r k)), LT, .bool emp]) = true := by
    rw [okA_list, List.all_cons, List.all_cons, List.all_cons, List.all_cons, okA_list, okA_list, okA_map (fun k _ => okA_tupD _), okA_map (fun k _ => okB _), okLT]
    rfl
  have hsz1 : szA (.list [.list ((List.range b.kinds.length).map fun k => tupD (missK b k r)), .list ((List.range b.kinds.length).map fun k => .bool (fitK b r k)), LT, .bool emp]) ≤ 800000 := by
    have q1 := szAll_map (f := fun k => tupD (missK b k r)) (c := 5) (l := List.range b.kinds.length) fun k _ => by
      have := miss_len (sh := showsK b k) (r := r)
      rw [szA_tupD]
      unfold missK
      omega
    have q2 := szAll_map (f := fun k => PyData.bool (fitK b r k)) (c := 1) (l := List.range b.kinds.length) fun k _ => Nat.le_refl _
    rw [List.length_range] at q1 q2
    simp only [szA_list, szAll, szA_bool]
    omega
  have hok2 : okA (.list [oneD LI, oneD GS, .tuple GS]) = true := by
    rw [okA_list, List.all_cons, List.all_cons, List.all_cons, okA_tuple, oneD_ok okLI, oneD_ok okGS2, List.all_eq_true.mpr okGS2]
    rfl
  have hsz2 : szA (.list [oneD LI, oneD GS, .tuple GS]) ≤ 800000 := by
    have q1 := oneD_sz szLI
    have q2 := oneD_sz szGS
    simp only [szA_list, szAll, szA_tuple]
    omega
  have hok3 : okA (.list [.bool (!r.contains (-1)), tupD (idxs (fun q => q.1 != -1) r), tupD (idxs (fun q => q.1 == -1) r), .bool true]) = true := by
    rw [okA_list, List.all_cons, List.all_cons, List.all_cons, okA_tupD, okA_tupD]
    rfl
  have hsz3 : szA (.list [.bool (!r.contains (-1)), tupD (idxs (fun q => q.1 != -1) r), tupD (idxs (fun q => q.1 == -1) r), .bool true]) ≤ 800000 := by
    have q1 := ni fun q => q.1 != -1
    have q2 := ni fun q => q.1 == -1
    simp only [szA_list, szAll, szA_bool, szA_tupD]
    omega
  have hpl : ∀ x : Int, (putAt r i x).length = r.length := fun x => putAt_len hi
  have hok4 : okA (.list [.list nx, tupD (putAt r i (-1))]) = true := by
    rw [okA_list, List.all_cons, List.all_cons, okA_list, okA_map (fun k _ => okA_tupD _), okA_tupD]
    rfl
  have hsz4 : szA (.list [.list nx, tupD (putAt r i (-1))]) ≤ 800000 := by
    have q1 : szAll nx ≤ (rngI (t.2.1 + 1)).length * 5 := szAll_map (f := fun x => tupD (putAt r i x)) (c := 5) fun x _ => by rw [szA_tupD, hpl]; omega
    have q2 : (rngI (t.2.1 + 1)).length ≤ 3 := rngI_le (by omega)
    simp only [szA_list, szAll, szA_tupD, hpl]
    omega
  rw [← hGS] at eG eLG eSG
  rw [← hLI] at eK
  rw [← hemp] at eS
  have hLTe : LT = .tuple LI := by rw [← hLT, hLI]; rfl
  refine ev_runx (E19 (.own (encBag β4)) (.d (encB b)) (.d (tupD r)) (.d (.list ((List.range b.kinds.length).map fun k : Nat => PyData.int k))) (.d LT) (.own (.lst GS)) (.d (.list [oneD LI, oneD GS, .tuple GS])) (.own (.lst ((idxs (fun q => q.1 == -1) r).map PyData.int))) (.own (.lst ((idxs (fun q => q.1 != -1) r).map PyData.int))) (.d (.int i)) (.d (.list nx)) (.d (tupD o)) (.d (.bool (goesI r o))) (.d y)) ?_
  refine seq_nx (Γ1 := (E19 (.own (encBag β)) (.d (encB b)) (.d (tupD r)) (.own (.lst ((List.range b.kinds.length).map fun k : Nat => PyData.int k))) .no .no .no .no .no .no .no .no .no .no)) ?_ ?_
  · have hx : (b.kinds.length : Int) ≤ 1000000 := by omega
    simp [E19, encB, gListRg, rangeD, hx]
  refine seq_nx (Γ1 := (E19 (.own (encBag β)) (.d (encB b)) (.d (tupD r)) (.own (.lst ((List.range b.kinds.length).map fun k : Nat => PyData.int k))) (.d LT) .no .no .no .no .no .no .no .no .no)) (set_of (call2 (ev_vd rfl) (ev_vd rfl) eLT rfl) rfl) ?_
  refine seq_nx (Γ1 := (E19 (.own (encBag β)) (.d (encB b)) (.d (tupD r)) (.own (.lst ((List.range b.kinds.length).map fun k : Nat => PyData.int k))) (.d LT) (.own (.lst GS)) .no .no .no .no .no .no .no .no)) (set_of (call2 (ev_vd rfl) (ev_vd rfl) eLG rfl) rfl) ?_
  refine seq_nx (Γ1 := (E19 (.own (encBag β)) (.d (encB b)) (.d (tupD r)) (.d (.list ((List.range b.kinds.length).map fun k : Nat => PyData.int k))) (.d LT) (.own (.lst GS)) (.own (.lst [.list ((List.range b.kinds.length).map fun k => tupD (missK b k r)), .list ((List.range b.kinds.length).map fun k => .bool (fitK b r k)), LT, .bool emp])) .no .no .no .no .no .no .no)) (set_of (s := (.own (.lst [.list ((List.range b.kinds.length).map fun k => tupD (missK b k r)), .list ((List.range b.kinds.length).map fun k => .bool (fitK b r k)), LT, .bool emp]))) (Γ1 := (E19 (.own (encBag β)) (.d (encB b)) (.d (tupD r)) (.d (.list ((List.range b.kinds.length).map fun k : Nat => PyData.int k))) (.d LT) (.own (.lst GS)) .no .no .no .no .no .no .no .no)) (lst_of (dc_o (each_kind (fun k hk => e_missK hb hr hk) (by omega) (.inl rfl)) (dc_o (each_kind (fun k hk => e_fits hb hr hk) (by omega) (.inr rfl)) (dc_d (call2 (ev_vd rfl) (ev_vd rfl) eT rfl) (dc_d (call2 (ev_vd rfl) (ev_vd rfl) eS rfl) rfl)))) (by simp)) rfl) ?_
  refine seq_nx (Γ1 := (E19 (.own (encBag β)) (.d (encB b)) (.d (tupD r)) (.d (.list ((List.range b.kinds.length).map fun k : Nat => PyData.int k))) (.d LT) (.own (.lst GS)) (.d (.list [.list ((List.range b.kinds.length).map fun k => tupD (missK b k r)), .list ((List.range b.kinds.length).map fun k => .bool (fitK b r k)), LT, .bool emp])) .no .no .no .no .no .no .no)) ?_ ?_
  · exact alike_no (Γ1 := (E19 (.own (encBag β)) (.d (encB b)) (.d (tupD r)) (.d (.list ((List.range b.kinds.length).map fun k : Nat => PyData.int k))) (.d LT) (.own (.lst GS)) (.own (.lst [.list ((List.range b.kinds.length).map fun k => tupD (missK b k r)), .list ((List.range b.kinds.length).map fun k => .bool (fitK b r k)), LT, .bool emp])) .no .no .no .no .no .no .no)) (Γ2 := (E19 (.own (encBag β)) (.d (encB b)) (.d (tupD r)) (.d (.list ((List.range b.kinds.length).map fun k : Nat => PyData.int k))) (.d LT) (.own (.lst GS)) (.own (.lst [.list ((List.range b.kinds.length).map fun k => tupD (missK b k r)), .list ((List.range b.kinds.length).map fun k => .bool (fitK b r k)), LT, .bool emp])) .no .no .no .no .no .no .no)) (ev_vo rfl) (lst_of (dc_o (each_kind (fun k hk => e_lmissK hb hr hk) (by omega) (.inr rfl)) (dc_o (each_kind (fun k hk => e_canbe hb hr hk) (by omega) (.inr rfl)) (dc_d (ev_vd rfl) (dc_d (s_emp _ rfl) rfl)))) (by simp)) rfl .lst .lst hok1 hsz1
  refine seq_nx (Γ1 := (E19 (.own (encBag β)) (.d (encB b)) (.d (tupD r)) (.d (.list ((List.range b.kinds.length).map fun k : Nat => PyData.int k))) (.d LT) (.own (.lst GS)) (.own (.lst [oneD LI, oneD GS, .tuple GS])) .no .no .no .no .no .no .no)) (set_of (s := (.own (.lst [oneD LI, oneD GS, .tuple GS]))) (Γ1 := (E19 (.own (encBag β)) (.d (encB b)) (.d (tupD r)) (.d (.list ((List.range b.kinds.length).map fun k : Nat => PyData.int k))) (.d LT) (.own (.lst GS)) (.d (.list [.list ((List.range b.kinds.length).map fun k => tupD (missK b k r)), .list ((List.range b.kinds.length).map fun k => .bool (fitK b r k)), LT, .bool emp])) .no .no .no .no .no .no .no)) (lst_of (dc_d (call2 (ev_vd rfl) (ev_vd rfl) eK rfl) (dc_d (call2 (ev_vd rfl) (ev_vd rfl) eSG rfl) (dc_d (call2 (ev_vd rfl) (ev_vd rfl) eG rfl) rfl))) (by simp)) rfl) ?_
  refine seq_nx (Γ1 := (E19 (.own (encBag β)) (.d (encB b)) (.d (tupD r)) (.d (.list ((List.range b.kinds.length).map fun k : Nat => PyData.int k))) (.d LT) (.own (.lst GS)) (.d (.list [oneD LI, oneD GS, .tuple GS])) .no .no .no .no .no .no .no)) ?_ ?_
  · exact alike_no (Γ1 := (E19 (.own (encBag β)) (.d (encB b)) (.d (tupD r)) (.d (.list ((List.range b.kinds.length).map fun k : Nat => PyData.int k))) (.d LT) (.own (.lst GS)) (.own (.lst [oneD LI, oneD GS, .tuple GS])) .no .no .no .no .no .no .no)) (Γ2 := (E19 (.own (encBag β)) (.d (encB b)) (.d (tupD r)) (.d (.list ((List.range b.kinds.length).map fun k : Nat => PyData.int k))) (.d LT) (.own (.lst GS)) (.own (.lst [oneD LI, oneD GS, .tuple GS])) .no .no .no .no .no .no .no)) (ev_vo rfl) (lst_of (dc_d (one_t (by rw [← hLTe]; rfl)) (dc_d (one_o rfl) (dc_d rfl rfl))) (by simp)) rfl .lst .lst hok2 hsz2
  refine seq_nx (Γ1 := (E19 (.own (encBag β)) (.d (encB b)) (.d (tupD r)) (.d (.list ((List.range b.kinds.length).map fun k : Nat => PyData.int k))) (.d LT) (.own (.lst GS)) (.d (.list [oneD LI, oneD GS, .tuple GS])) (.own (.lst ((idxs (fun q => q.1 == -1) r).map PyData.int))) .no .no .no .no .no .no)) (set_of (call1 (ev_vd rfl) rfl eU rfl) rfl) ?_
  refine seq_nx (Γ1 := (E19 (.own (encBag β)) (.d (encB b)) (.d (tupD r)) (.d (.list ((List.range b.kinds.length).map fun k : Nat => PyData.int k))) (.d LT) (.own (.lst GS)) (.d (.list [oneD LI, oneD GS, .tuple GS])) (.own (.lst ((idxs (fun q => q.1 == -1) r).map PyData.int))) (.own (.lst ((idxs (fun q => q.1 != -1) r).map PyData.int))) .no .no .no .no .no)) ?_ ?_
  · rw [← read_map r]
    exact set_of (s := .own (.lst (((List.range r.length).filter fun i : Nat => !(idxs (fun q => q.1 == -1) r).contains (i : Int)).map fun i : Nat => PyData.int i))) (Γ1 := (E19 (.own (encBag β)) (.d (encB b)) (.d (tupD r)) (.d (.list ((List.range b.kinds.length).map fun k : Nat => PyData.int k))) (.d LT) (.own (.lst GS)) (.d (.list [oneD LI, oneD GS, .tuple GS])) (.own (.lst ((idxs (fun q => q.1 == -1) r).map PyData.int))) .no .no .no .no .no .no)) (lc_filter (Γ0 := (E19 (.own (encBag β)) (.d (encB b)) (.d (tupD r)) (.d (.list ((List.range b.kinds.length).map fun k : Nat => PyData.int k))) (.d LT) (.own (.lst GS)) (.d (.list [oneD LI, oneD GS, .tuple GS])) (.own (.lst ((idxs (fun q => q.1 == -1) r).map PyData.int))) .no .no .no .no .no .no)) (fun i : Nat => .int i) (fun i : Nat => !(idxs (fun q => q.1 == -1) r).contains (i : Int)) (fun i : Nat => .int i) (rng_of (by simp [E19, tupD]) (by omega)) rfl (fun j hj => s_read) (by rw [List.length_range]; show _ ≤ 1000000; omega)) rfl
  refine seq_nx (Γ1 := (E19 (.own (encBag β)) (.d (encB b)) (.d (tupD r)) (.d (.list ((List.range b.kinds.length).map fun k : Nat => PyData.int k))) (.d LT) (.own (.lst GS)) (.d (.list [oneD LI, oneD GS, .tuple GS])) (.own (.lst ((idxs (fun q => q.1 == -1) r).map PyData.int))) (.own (.lst ((idxs (fun q => q.1 != -1) r).map PyData.int))) .no .no .no .no .no)) ?_ ?_
  · exact alike_no (d := .list [.bool (!r.contains (-1)), tupD (idxs (fun q => q.1 != -1) r), tupD (idxs (fun q => q.1 == -1) r), .bool true]) (Γ1 := (E19 (.own (encBag β)) (.d (encB b)) (.d (tupD r)) (.d (.list ((List.range b.kinds.length).map fun k : Nat => PyData.int k))) (.d LT) (.own (.lst GS)) (.d (.list [oneD LI, oneD GS, .tuple GS])) (.own (.lst ((idxs (fun q => q.1 == -1) r).map PyData.int))) (.own (.lst ((idxs (fun q => q.1 != -1) r).map PyData.int))) .no .no .no .no .no)) (Γ2 := (E19 (.own (encBag β)) (.d (encB b)) (.d (tupD r)) (.d (.list ((List.range b.kinds.length).map fun k : Nat => PyData.int k))) (.d LT) (.own (.lst GS)) (.d (.list [oneD LI, oneD GS, .tuple GS])) (.own (.lst ((idxs (fun q => q.1 == -1) r).map PyData.int))) (.own (.lst ((idxs (fun q => q.1 != -1) r).map PyData.int))) .no .no .no .no .no)) (lst_of (dc_d (call1 (ev_vd rfl) rfl e_whole rfl) (dc_d (call1 (ev_vd rfl) rfl (e_read (by omega)) rfl) (dc_d (call1 (ev_vd rfl) rfl (e_unreadt (by omega)) rfl) (dc_d (call2 (ev_vd rfl) (ev_vd rfl) eIR rfl) rfl)))) (by simp)) (lst_of (dc_d (bin_of (ev_vo rfl) (lst_of rfl (by simp)) (s_em _ rfl)) (dc_d (un_of (ev_vo rfl) rfl) (dc_d (un_of (ev_vo rfl) rfl) (dc_d rfl rfl)))) (by simp)) rfl .lst .lst hok3 hsz3
  refine seq_nx (Γ1 := (E19 (.own (encBag β1)) (.d (encB b)) (.d (tupD r)) (.d (.list ((List.range b.kinds.length).map fun k : Nat => PyData.int k))) (.d LT) (.own (.lst GS)) (.d (.list [oneD LI, oneD GS, .tuple GS])) (.own (.lst ((idxs (fun q => q.1 == -1) r).map PyData.int))) (.own (.lst ((idxs (fun q => q.1 != -1) r).map PyData.int))) (.d (.int i)) .no .no .no .no)) (set_of (s := .d (.int i)) (Γ1 := (E19 (.own (encBag β1)) (.d (encB b)) (.d (tupD r)) (.d (.list ((List.range b.kinds.length).map fun k : Nat => PyData.int k))) (.d LT) (.own (.lst GS)) (.d (.list [oneD LI, oneD GS, .tuple GS])) (.own (.lst ((idxs (fun q => q.1 == -1) r).map PyData.int))) (.own (.lst ((idxs (fun q => q.1 != -1) r).map PyData.int))) .no .no .no .no .no)) (call_of (ss := [.bor 0, .d (.int r.length)]) (Γ1 := (E19 (.own (encBag β)) (.d (encB b)) (.d (tupD r)) (.d (.list ((List.range b.kinds.length).map fun k : Nat => PyData.int k))) (.d LT) (.own (.lst GS)) (.d (.list [oneD LI, oneD GS, .tuple GS])) (.own (.lst ((idxs (fun q => q.1 == -1) r).map PyData.int))) (.own (.lst ((idxs (fun q => q.1 != -1) r).map PyData.int))) .no .no .no .no .no)) (ac_p (ev_vo rfl) (ac_p (by simp [E19, tupD]) rfl)) rfl e1) rfl) ?_
  refine seq_nx (Γ1 := (E19 (.own (encBag β1)) (.d (encB b)) (.d (tupD r)) (.d (.list ((List.range b.kinds.length).map fun k : Nat => PyData.int k))) (.d LT) (.own (.lst GS)) (.d (.list [oneD LI, oneD GS, .tuple GS])) (.own (.lst ((idxs (fun q => q.1 == -1) r).map PyData.int))) (.own (.lst ((idxs (fun q => q.1 != -1) r).map PyData.int))) (.d (.int i)) (.own (.lst nx)) .no .no .no)) (set_of (s := .own (.lst nx)) (Γ1 := (E19 (.own (encBag β1)) (.d (encB b)) (.d (tupD r)) (.d (.list ((List.range b.kinds.length).map fun k : Nat => PyData.int k))) (.d LT) (.own (.lst GS)) (.d (.list [oneD LI, oneD GS, .tuple GS])) (.own (.lst ((idxs (fun q => q.1 == -1) r).map PyData.int))) (.own (.lst ((idxs (fun q => q.1 != -1) r).map PyData.int))) (.d (.int i)) .no .no .no .no)) (s_nexts (fun x => e_lwith hi (by omega)) ht ht2.1 ht2.2) rfl) ?_
  refine seq_nx (Γ1 := (E19 (.own (encBag β1)) (.d (encB b)) (.d (tupD r)) (.d (.list ((List.range b.kinds.length).map fun k : Nat => PyData.int k))) (.d LT) (.own (.lst GS)) (.d (.list [oneD LI, oneD GS, .tuple GS])) (.own (.lst ((idxs (fun q => q.1 == -1) r).map PyData.int))) (.own (.lst ((idxs (fun q => q.1 != -1) r).map PyData.int))) (.d (.int i)) (.d (.list nx)) .no .no .no)) ?_ ?_
  · exact alike_no (d := .list [.list nx, tupD (putAt r i (-1))]) (Γ1 := (E19 (.own (encBag β1)) (.d (encB b)) (.d (tupD r)) (.d (.list ((List.range b.kinds.length).map fun k : Nat => PyData.int k))) (.d LT) (.own (.lst GS)) (.d (.list [oneD LI, oneD GS, .tuple GS])) (.own (.lst ((idxs (fun q => q.1 == -1) r).map PyData.int))) (.own (.lst ((idxs (fun q => q.1 != -1) r).map PyData.int))) (.d (.int i)) (.own (.lst nx)) .no .no .no)) (Γ2 := (E19 (.own (encBag β1)) (.d (encB b)) (.d (tupD r)) (.d (.list ((List.range b.kinds.length).map fun k : Nat => PyData.int k))) (.d LT) (.own (.lst GS)) (.d (.list [oneD LI, oneD GS, .tuple GS])) (.own (.lst ((idxs (fun q => q.1 == -1) r).map PyData.int))) (.own (.lst ((idxs (fun q => q.1 != -1) r).map PyData.int))) (.d (.int i)) (.d (.list nx)) .no .no .no)) (lst_of (dc_o (call3 (ev_vd rfl) (ev_vd rfl) (ev_vd rfl) eNX rfl) (dc_d (call3 (ev_vd rfl) (ev_vd rfl) rfl (e_with hi (by omega)) rfl) rfl)) (by simp)) (lst_of (dc_b rfl (dc_d (call3 (ev_vd rfl) (ev_vd rfl) rfl (e_lwith hi (by omega)) rfl) rfl)) (by simp)) rfl .lst .lst hok4 hsz4
  refine seq_nx (Γ1 := (E19 (.own (encBag β3)) (.d (encB b)) (.d (tupD r)) (.d (.list ((List.range b.kinds.length).map fun k : Nat => PyData.int k))) (.d LT) (.own (.lst GS)) (.d (.list [oneD LI, oneD GS, .tuple GS])) (.own (.lst ((idxs (fun q => q.1 == -1) r).map PyData.int))) (.own (.lst ((idxs (fun q => q.1 != -1) r).map PyData.int))) (.d (.int i)) (.d (.list nx)) (.d (tupD o)) .no .no)) (set_of (s := .d (tupD o)) (Γ1 := (E19 (.own (encBag β3)) (.d (encB b)) (.d (tupD r)) (.d (.list ((List.range b.kinds.length).map fun k : Nat => PyData.int k))) (.d LT) (.own (.lst GS)) (.d (.list [oneD LI, oneD GS, .tuple GS])) (.own (.lst ((idxs (fun q => q.1 == -1) r).map PyData.int))) (.own (.lst ((idxs (fun q => q.1 != -1) r).map PyData.int))) (.d (.int i)) (.d (.list nx)) .no .no .no)) (call_of (ss := [.bor 0, .own (.lst (tupD r2 :: nx))]) (Γ1 := (E19 (.own (encBag β2)) (.d (encB b)) (.d (tupD r)) (.d (.list ((List.range b.kinds.length).map fun k : Nat => PyData.int k))) (.d LT) (.own (.lst GS)) (.d (.list [oneD LI, oneD GS, .tuple GS])) (.own (.lst ((idxs (fun q => q.1 == -1) r).map PyData.int))) (.own (.lst ((idxs (fun q => q.1 != -1) r).map PyData.int))) (.d (.int i)) (.d (.list nx)) .no .no .no)) (ac_p (ev_vo rfl) (ac_of (bin_of (lst_of (dc_d (call_of (ss := [.bor 0, .d (encB b)]) (ac_p (ev_vo rfl) (ac_p (ev_vd rfl) rfl)) rfl e2) rfl) (by simp)) (ev_vd rfl) (by simp; omega)) rfl)) rfl e3) rfl) ?_
  refine seq_nx (Γ1 := (E19 (.own (encBag β3)) (.d (encB b)) (.d (tupD r)) (.d (.list ((List.range b.kinds.length).map fun k : Nat => PyData.int k))) (.d LT) (.own (.lst GS)) (.d (.list [oneD LI, oneD GS, .tuple GS])) (.own (.lst ((idxs (fun q => q.1 == -1) r).map PyData.int))) (.own (.lst ((idxs (fun q => q.1 != -1) r).map PyData.int))) (.d (.int i)) (.d (.list nx)) (.d (tupD o)) (.d (.bool (goesI r o))) .no)) (set_of (s := .d (.bool (goesI r o))) (Γ1 := (E19 (.own (encBag β3)) (.d (encB b)) (.d (tupD r)) (.d (.list ((List.range b.kinds.length).map fun k : Nat => PyData.int k))) (.d LT) (.own (.lst GS)) (.d (.list [oneD LI, oneD GS, .tuple GS])) (.own (.lst ((idxs (fun q => q.1 == -1) r).map PyData.int))) (.own (.lst ((idxs (fun q => q.1 != -1) r).map PyData.int))) (.d (.int i)) (.d (.list nx)) (.d (tupD o)) .no .no)) (s_due hr hl4) rfl) ?_
  refine seq_nx (Γ1 := (E19 (.own (encBag β3)) (.d (encB b)) (.d (tupD r)) (.d (.list ((List.range b.kinds.length).map fun k : Nat => PyData.int k))) (.d LT) (.own (.lst GS)) (.d (.list [oneD LI, oneD GS, .tuple GS])) (.own (.lst ((idxs (fun q => q.1 == -1) r).map PyData.int))) (.own (.lst ((idxs (fun q => q.1 != -1) r).map PyData.int))) (.d (.int i)) (.d (.list nx)) (.d (tupD o)) (.d (.bool (goesI r o))) .no)) (if_no (s_go hb hr ho hLT (by omega))) ?_
  refine seq_nx (Γ1 := (E19 (.own (encBag β4)) (.d (encB b)) (.d (tupD r)) (.d (.list ((List.range b.kinds.length).map fun k : Nat => PyData.int k))) (.d LT) (.own (.lst GS)) (.d (.list [oneD LI, oneD GS, .tuple GS])) (.own (.lst ((idxs (fun q => q.1 == -1) r).map PyData.int))) (.own (.lst ((idxs (fun q => q.1 != -1) r).map PyData.int))) (.d (.int i)) (.d (.list nx)) (.d (tupD o)) (.d (.bool (goesI r o))) (.d y))) (set_of (s := .d y) (Γ1 := (E19 (.own (encBag β4)) (.d (encB b)) (.d (tupD r)) (.d (.list ((List.range b.kinds.length).map fun k : Nat => PyData.int k))) (.d LT) (.own (.lst GS)) (.d (.list [oneD LI, oneD GS, .tuple GS])) (.own (.lst ((idxs (fun q => q.1 == -1) r).map PyData.int))) (.own (.lst ((idxs (fun q => q.1 != -1) r).map PyData.int))) (.d (.int i)) (.d (.list nx)) (.d (tupD o)) (.d (.bool (goesI r o))) .no)) (call_of (ss := [.bor 0, .d (tupD r), .d (.int 1)]) (Γ1 := (E19 (.own (encBag β3)) (.d (encB b)) (.d (tupD r)) (.d (.list ((List.range b.kinds.length).map fun k : Nat => PyData.int k))) (.d LT) (.own (.lst GS)) (.d (.list [oneD LI, oneD GS, .tuple GS])) (.own (.lst ((idxs (fun q => q.1 == -1) r).map PyData.int))) (.own (.lst ((idxs (fun q => q.1 != -1) r).map PyData.int))) (.d (.int i)) (.d (.list nx)) (.d (tupD o)) (.d (.bool (goesI r o))) .no)) (ac_p (ev_vo rfl) (ac_p (ev_vd rfl) (ac_p rfl rfl))) rfl e4) rfl) ?_
  exact ret_of (alike_of (Γ1 := (E19 (.own (encBag β4)) (.d (encB b)) (.d (tupD r)) (.d (.list ((List.range b.kinds.length).map fun k : Nat => PyData.int k))) (.d LT) (.own (.lst GS)) (.d (.list [oneD LI, oneD GS, .tuple GS])) (.own (.lst ((idxs (fun q => q.1 == -1) r).map PyData.int))) (.own (.lst ((idxs (fun q => q.1 != -1) r).map PyData.int))) (.d (.int i)) (.d (.list nx)) (.d (tupD o)) (.d (.bool (goesI r o))) (.d y))) (Γ2 := (E19 (.own (encBag β4)) (.d (encB b)) (.d (tupD r)) (.d (.list ((List.range b.kinds.length).map fun k : Nat => PyData.int k))) (.d LT) (.own (.lst GS)) (.d (.list [oneD LI, oneD GS, .tuple GS])) (.own (.lst ((idxs (fun q => q.1 == -1) r).map PyData.int))) (.own (.lst ((idxs (fun q => q.1 != -1) r).map PyData.int))) (.d (.int i)) (.d (.list nx)) (.d (tupD o)) (.d (.bool (goesI r o))) (.d y))) (call2 (ev_vd rfl) (ev_vd rfl) (e_isrd hb y) rfl) (call2 (ev_vd rfl) (ev_vd rfl) (e_lisrd hb y) rfl) rfl .d .d rfl (by simp [szA])) rfl
end K22

set_option Elab.async false
set_option linter.all false
set_option maxRecDepth 100000
set_option maxHeartbeats 4000000
namespace K22
open PySem DL
/-! ### the bag of a script -/
def absI (i : Int) : Int := if i < 0 then -i else i
theorem e_bag {ns : List Int} (h : ns.length ≤ 63) : ∃ β, F__law_bag [.d (.list (ns.map PyData.int))] = some (.own (encBag β), [.d (.list (ns.map PyData.int))]) ∧ OkBag β := by
  refine ⟨⟨0, 1234567891, 0, (ns.take 63).map absI⟩, ?_, Int.le_refl 0, Int.le_refl 0, by rw [List.length_map, List.length_take]; omega⟩
  have ht : (ns.map PyData.int).take 63 = (ns.take 63).map PyData.int := by rw [List.map_take]
  have hc : cutL (ns.map PyData.int) none (some 63) = (ns.take 63).map PyData.int := by rw [← ht]; exact cut_take (i := 63)
  have hl : ns.length ≤ 1000000 := by omega
  have e := lc_map (mi := mSeqI (mSl (mVar 0) mO0 (mO1 (mC (.int 63))))) (g := setS 1) (me := mUn (gSc1 absD) (mVar 1)) (vs := [1]) (Γ := [.d (.list (ns.map PyData.int)), .no]) (Γ0 := [.d (.list (ns.map PyData.int)), .no]) (ts := ns.take 63) PyData.int (fun x => .int (absI x)) (by simp [hc, hl]) rfl (fun x _ => by simp [lcStep, absI]) (by rw [List.length_take]; show _ ≤ 1000000; omega)
  refine ev_runx [.d (.list (ns.map PyData.int)), .no] (ret_of (lst_of (dc_d rfl (dc_d rfl (dc_d rfl (dc_o e rfl)))) (by simp)) ?_)
  simp [encBag, List.map_map, Function.comp_def]
/-! ### lots -/
def InLots (n : Int) (left : List Int) (s : List (List Int)) (Γ : DL.Env) : Prop :=
  (∃ s2, Γ = [.d (.int n), .own (.lst (s.map tupD)), s2, .no]) ∧ s.length * 2 ^ left.length ≤ 100 ∧ s ≠ [] ∧ (∀ l ∈ s, l.length + left.length ≤ 4) ∧ (∀ l ∈ s, ∀ x ∈ l, 0 ≤ x ∧ x < n) ∧ ∀ x ∈ left, 0 ≤ x ∧ x < n
theorem e_lots {n : Int} (h0 : 0 ≤ n) (h4 : n ≤ 4) : ∃ L : List (List Int), F__law_lots [.d (.int n)] = some (.own (.lst (L.map tupD)), [.d (.int n)]) ∧ L ≠ [] ∧ L.length ≤ 100 ∧ (∀ l ∈ L, l.length ≤ 4) ∧ ∀ l ∈ L, ∀ x ∈ l, 0 ≤ x ∧ x < n := by
  have hp : 2 ^ (rngI n).length ≤ 2 ^ 4 := Nat.pow_le_pow_right (by decide) (by rw [rngI_len]; omega)
  obtain ⟨Γ', e, ⟨⟨s2, rfl⟩, q1, q2, q3, q4, _⟩⟩ := forL_rem (g := setS 2) (mb := mSet (setS 1) (mBin gAdd (mVar 1) (mLc (mSeqI (mVar 1)) (setS 3) mYes (mBin gAdd (mVar 3) (mTup (mDc (mVar 2) mD0))) [3]))) PyData.int (InLots n) (fun s at' => s ++ s.map fun l => l ++ [at']) (by
    rintro x left s Γ ⟨⟨s2, rfl⟩, p1, p2, p3, p4, p5⟩
    have hpow : s.length * 2 ^ (x :: left).length = s.length * 2 * 2 ^ left.length := by rw [List.length_cons, Nat.pow_succ, Nat.mul_assoc, Nat.mul_comm (2 ^ left.length)]
    have h5 : 1 ≤ 2 ^ left.length := Nat.one_le_pow _ _ (by decide)
    have h6 : s.length * 2 * 1 ≤ s.length * 2 * 2 ^ left.length := Nat.mul_le_mul_left _ h5
    have e := lc_map (mi := mSeqI (mVar 1)) (g := setS 3) (me := mBin gAdd (mVar 3) (mTup (mDc (mVar 2) mD0))) (vs := [3]) (Γ := [.d (.int n), .own (.lst (s.map tupD)), .d (.int x), .no]) (Γ0 := [.d (.int n), .d (.list (s.map tupD)), .d (.int x), .no]) (ts := s) tupD (fun l => tupD (l ++ [x])) (by simp) rfl (fun l hl => by
      have := p3 l hl
      have h9 : l.length ≤ 999999 := by omega
      simp [lcStep, tupD, h9]) (by show _ ≤ 1000000; omega)
    refine ⟨[.d (.int n), .own (.lst ((s ++ s.map fun l => l ++ [x]).map tupD)), .d (.int x), .no], ?_, ⟨⟨_, rfl⟩, ?_, ?_, ?_, ?_, fun y hy => p5 y (List.mem_cons_of_mem _ hy)⟩⟩
    · have es : setS 2 (.d (.int x)) [.d (.int n), .own (.lst (s.map tupD)), s2, .no] = some [.d (.int n), .own (.lst (s.map tupD)), .d (.int x), .no] := by simp
      unfold forStep
      rw [es]
      simp only [Option.bind_some]
      refine set_of (s := .own (.lst ((s ++ s.map fun l => l ++ [x]).map tupD))) (Γ1 := [.d (.int n), .d (.list (s.map tupD)), .d (.int x), .no]) (bin_of (Γ1 := [.d (.int n), .own (.lst (s.map tupD)), .d (.int x), .no]) (ev_vo rfl) e ?_) rfl
      have h9 : s.length + s.length ≤ 1000000 := by omega
      simp [h9, List.map_map, Function.comp_def]
    · rw [List.length_append, List.length_map]
      have : (s.length + s.length) * 2 ^ left.length = s.length * 2 * 2 ^ left.length := by rw [Nat.mul_two]
      omega
    · intro z
      exact p2 (List.append_eq_nil_iff.mp z).1
    · intro l hl
      rcases List.mem_append.mp hl with hl | hl
      · have := p3 l hl
        rw [List.length_cons] at this
        omega
      · obtain ⟨m, hm, rfl⟩ := List.mem_map.mp hl
        have := p3 m hm
        rw [List.length_cons] at this
        rw [List.length_append, List.length_singleton]
        omega
    · intro l hl y hy
      rcases List.mem_append.mp hl with hl | hl
      · exact p4 l hl y hy
      · obtain ⟨m, hm, rfl⟩ := List.mem_map.mp hl
        rcases List.mem_append.mp hy with hy | hy
        · exact p4 m hm y hy
        · rw [List.mem_singleton.mp hy]
          exact p5 x (by simp)) (ts := rngI n) (s := [[]]) (Γ := [.d (.int n), .own (.lst [.tuple []]), .no, .no]) ⟨⟨.no, rfl⟩, by simp only [List.length_singleton, Nat.one_mul]; omega, by simp, fun l hl => by rw [List.mem_singleton.mp hl, rngI_len]; simp only [List.length_nil]; omega, fun l hl => by (rw [List.mem_singleton.mp hl]; intro y hy; cases hy), fun x hx => rngI_mem.mp hx⟩
  generalize (rngI n).foldl (fun s at' => s ++ s.map fun l => l ++ [at']) [[]] = S at e q1 q2 q3 q4
  have et : tupsOf (S.map tupD) = some S := by
    letI : TabsC := ⟨[]⟩
    clear e q1 q2 q3 q4
    induction S with
    | nil => rfl
    | cons b r ih =>
      rw [List.map_cons]
      show (intsOf (b.map PyData.int)).bind _ = _
      rw [intsOf_map]
      simp only [Option.bind_some]
      rw [ih]
      rfl
  refine ⟨S.mergeSort (PySem.W.dataLe false L2.lotKey), ?_, ?_, ?_, ?_, ?_⟩
  · refine ev_runx [.d (.int n), .own (.lst (S.map tupD)), s2, .no] ?_
    refine seq_nx (Γ1 := [.d (.int n), .own (.lst [.tuple []]), .no, .no]) rfl (seq_nx ((for_of (rng_x (x := n) (ev_vd rfl) h0 (by omega))).trans e) (ret_of (s := .own (.lst ((S.mergeSort (PySem.W.dataLe false L2.lotKey)).map tupD))) (Γ1 := [.d (.int n), .own (.lst (S.map tupD)), s2, .no]) (un_of (ev_vo rfl) ?_) rfl))
    unfold gSortLen
    simp only [ev_viewb, List.getElem?_cons_succ, List.getElem?_cons_zero, ev_datl, Option.bind_some, et]
  · intro z
    have := congrArg List.length z
    rw [List.length_mergeSort] at this
    exact q2 (List.length_eq_zero_iff.mp this)
  · rw [List.length_mergeSort]
    simpa using q1
  · intro l hl
    have := q3 l (List.mem_mergeSort.mp hl)
    simpa using this
  · exact fun l hl => q4 l (List.mem_mergeSort.mp hl)
/-! ### prices -/
def priceI (b : Bk) (lot : List Int) : Int := (lot.map fun x => ((b.traits[x.toNat]?).map (·.2.2)).getD 0).sum
theorem e_price {b : Bk} {lot : List Int} (h : ∀ x ∈ lot, 0 ≤ x ∧ x < b.traits.length) (hl : lot.length ≤ 1000) : F_price_of [.d (encB b), .d (tupD lot)] = some (.d (.int (priceI b lot)), [.d (encB b), .d (tupD lot)]) := by
  have e := lc_map (mi := mSeqI (mVar 1)) (g := setS 2) (me := mBin gIx (mBin gIx (mBin gIx (mVar 0) (mC (.int 2))) (mVar 2)) (mC (.int 2))) (vs := [2]) (Γ := [.d (encB b), .d (tupD lot), .no]) (Γ0 := [.d (encB b), .d (tupD lot), .no]) (ts := lot) PyData.int (fun x => .int (((b.traits[x.toNat]?).map (·.2.2)).getD 0)) (by simp [tupD]) rfl (fun x hx => by
    have q := h x hx
    obtain ⟨i, rfl⟩ : ∃ i : Nat, x = i := ⟨x.toNat, by omega⟩
    have hi : i < b.traits.length := by omega
    have a1 : L2.atI (b.traits.map encT) (i : Int) = some (encT b.traits[i]) := atI_nat (by rw [List.getElem?_map, List.getElem?_eq_getElem hi]; rfl)
    simp [lcStep, encB, a1, encT, hi]) (by show _ ≤ 1000000; omega)
  refine ev_runx [.d (encB b), .d (tupD lot), .no] (ret_of (s := .d (.int (priceI b lot))) (un_of e ?_) rfl)
  letI : TabsC := ⟨[]⟩
  have e2 : sumD (.list (lot.map fun x => PyData.int (((b.traits[x.toNat]?).map (·.2.2)).getD 0))) = some (.int (priceI b lot)) := by
    have e3 := intsOf_map (lot.map fun x => ((b.traits[x.toNat]?).map (·.2.2)).getD 0)
    rw [List.map_map] at e3
    show (intsOf _).map _ = _
    erw [e3]
    rfl
  simp only [gSc1, ev_viewo, ev_datl, Option.bind_some, e2]
theorem e_lprice {b : Bk} {lot : List Int} (h : ∀ x ∈ lot, 0 ≤ x ∧ x < b.traits.length) (hl : lot.length ≤ 1000) : F__law_price [.d (encB b), .d (tupD lot)] = some (.d (.int (priceI b lot)), [.d (encB b), .d (tupD lot)]) := e_price h hl
theorem wholes_ok {b : Bk} (hb : OkTs b.traits) {row : List Int} (h : row ∈ wholesI b) : OkR b row := by
  unfold wholesI at h
  have h2 := rows_mem.mp h
  have gen : ∀ (ts : List (Str × Int × Int)) (row : List Int), PySem.W.EachIs (fun x c => x ∈ c) row (ts.map fun t => rngI (t.2.1 + 1)) → PySem.W.EachIs (fun t x => -1 ≤ x ∧ x ≤ t.2.1) ts row := fun ts => by
    induction ts with
    | nil => intro row h; cases h; exact .nil
    | cons t ts ih =>
      intro row h
      rw [List.map_cons] at h
      cases h with
      | cons q r =>
        have := rngI_mem.mp q
        exact .cons ⟨by omega, by omega⟩ (ih _ r)
  exact gen _ _ h2
theorem rows_ne {cols : List (List Int)} (h : ∀ c ∈ cols, c ≠ []) : rowsI cols ≠ [] := by
  have : ∃ row, PySem.W.EachIs (fun x c => x ∈ c) row cols := by
    induction cols with
    | nil => exact ⟨[], .nil⟩
    | cons c cols ih =>
      obtain ⟨row, hr⟩ := ih fun c hc => h c (List.mem_cons_of_mem _ hc)
      obtain ⟨x, hx⟩ := List.exists_mem_of_ne_nil c (h c (by simp))
      exact ⟨x :: row, .cons hx hr⟩
  obtain ⟨row, hr⟩ := this
  exact List.ne_nil_of_mem (rows_mem.mpr hr)
theorem wholes_ne {b : Bk} (hb : OkTs b.traits) : wholesI b ≠ [] := rows_ne fun c hc => by
  obtain ⟨t, ht, rfl⟩ := List.mem_map.mp hc
  have := hb.2.2 t ht
  intro z
  have := congrArg List.length z
  rw [rngI_len, List.length_nil] at this
  omega
theorem addCol_len {fd : List (List Int)} {c : List Int} : (addCol fd c).length = fd.length * c.length := flatMap_len
theorem rows_len {cols : List (List Int)} (h : ∀ c ∈ cols, c.length ≤ 3) : (rowsI cols).length ≤ 3 ^ cols.length := by
  have gen : ∀ (cols fd : List (List Int)), (∀ c ∈ cols, c.length ≤ 3) → (cols.foldl addCol fd).length ≤ fd.length * 3 ^ cols.length := fun cols => by
    induction cols with
    | nil => intro fd _; simp
    | cons c cols ih =>
      intro fd h
      rw [List.foldl_cons]
      refine Nat.le_trans (ih _ fun c hc => h c (List.mem_cons_of_mem _ hc)) ?_
      rw [addCol_len, List.length_cons, Nat.pow_succ, Nat.mul_comm (3 ^ cols.length) 3, ← Nat.mul_assoc]
      exact Nat.mul_le_mul_right _ (Nat.mul_le_mul_left _ (h c (by simp)))
  have := gen cols [[]] h
  simpa [rowsI] using this
theorem wholes_len {b : Bk} (hb : OkTs b.traits) : (wholesI b).length ≤ 81 := by
  have h := rows_len (cols := b.traits.map fun t => rngI (t.2.1 + 1)) fun c hc => by
    obtain ⟨t, ht, rfl⟩ := List.mem_map.mp hc
    have := hb.2.2 t ht
    exact rngI_le (by omega)
  have h2 : 3 ^ (b.traits.map fun t => rngI (t.2.1 + 1)).length ≤ 3 ^ 4 := Nat.pow_le_pow_right (by decide) (by rw [List.length_map]; exact hb.2.1)
  exact Nat.le_trans h h2
end K22

set_option Elab.async false
set_option linter.all false
set_option maxRecDepth 100000
set_option maxHeartbeats 4000000
namespace K22
open PySem DL
abbrev E11 (s0 s1 s2 s3 s4 s5 s6 s7 s8 s9 : DL.Slot) : DL.Env := [s0, s1, s2, s3, s4, s5, s6, s7, s8, s9, .no]
theorem par2 {i j : Nat} {a b : M} {Γ Γ1 Γ2 Γ3 : DL.Env} {x y : Dat} (h1 : a Γ = some (.d x, Γ1)) (h2 : b Γ1 = some (.d y, Γ2)) (h3 : parS [i, j] [.d x, .d y] Γ2 = some Γ3) : mPar [i, j] (mAc a (mAc b mA0)) Γ = some (.nx, Γ3) := by
  unfold mPar
  rw [ac_of h1 (ac_of h2 rfl)]
  simp only [Option.bind_some]
  rw [show ([DL.Slot.d x, DL.Slot.d y].all keepable) = true from rfl]
  simp only [if_true]
  rw [h3]
  rfl
theorem seqI_of {m : M} {l : List Dat} {Γ Γ1 : DL.Env} (h : m Γ = some (.d (.tuple l), Γ1)) : mSeqI m Γ = some (l, Γ1) := by
  unfold mSeqI
  rw [h]
  rfl
abbrev bodyR : MS := (mSeq (mFor (mSeqI (mBin gAdd (mLst (mDc (mCall 1 F__law_nothing (mAc (mVar 3) mA0)) (mDc (mCall 2 F__law_some (mAc (mVar 1) (mAc (mVar 4) mA0))) mD0))) (mLc (mRange1 (mC (.int 10))) (setS 10) mYes (mCall 2 F__law_reading (mAc (mVar 1) (mAc (mVar 3) mA0))) [10]))) (setS 5) (mIfS (mNotT (mTru (mCall 3 F__law_reading_right (mAc (mVar 1) (mAc (mVar 3) (mAc (mVar 5) mA0)))))) (mRet 1 (mC (.bool false))) mNext)) (mSeq (mSet (setS 6) (mCall 2 F__law_some (mAc (mVar 1) (mAc (mCall 1 F__law_lots (mAc (mUn (gSc1 lenD) (mBin gIx (mVar 3) (mC (.int 2)))) mA0)) mA0)))) (mSeq (mPar [8, 9] (mAc (mCall 2 F__law_take (mAc (mVar 1) (mAc (mUn (gSc1 lenD) (mBin gIx (mVar 3) (mC (.int 3)))) mA0))) (mAc (mCall 2 F__law_take (mAc (mVar 1) (mAc (mUn (gSc1 lenD) (mBin gIx (mVar 3) (mC (.int 2)))) mA0))) mA0))) (mSeq (mIfS (mNotT (mTru (mCall 2 F__law_alike (mAc (mLst (mDc (mCall 2 F_price_of (mAc (mVar 3) (mAc (mVar 6) mA0))) (mDc (mCall 3 F_shows_of (mAc (mVar 3) (mAc (mVar 8) (mAc (mVar 9) mA0)))) mD0))) (mAc (mLst (mDc (mCall 2 F__law_price (mAc (mVar 3) (mAc (mVar 6) mA0))) (mDc (mBin gIx (mBin gIx (mBin gIx (mBin gIx (mVar 3) (mC (.int 3))) (mVar 8)) (mC (.int 2))) (mVar 9)) mD0))) mA0))))) (mRet 1 (mC (.bool false))) mNext) (mFor (mSeqI (mTup (mDc (mCall 1 F__law_odd (mAc (mVar 1) mA0)) (mDc (mUn gList (mBin gIx (mVar 4) (mC (.int 0)))) (mDc (mBin gAdd (mBin gIx (mVar 4) (mC (.int 0))) (mTup (mDc (mC (.int 0)) mD0))) (mDc (mSl (mBin gIx (mVar 4) (mC (.int 0))) (mO1 (mC (.int 1))) mO0) (mDc (mUn gTuple (mLc (mSeqI (mBin gIx (mVar 3) (mC (.int 2)))) (setS 9) mYes (mC (.int 9)) [9])) mD0))))))) (setS 7) (mIfS (mNotT (mTru (mCall 2 F__law_alike (mAc (mCall 2 F_is_reading (mAc (mVar 3) (mAc (mVar 7) mA0))) (mAc (mCall 2 F__law_is_reading (mAc (mVar 3) (mAc (mVar 7) mA0))) mA0))))) (mRet 1 (mC (.bool false))) mNext))))))
abbrev Rest (S : DL.Slot) (m : MS) (Γ : DL.Env) : Prop := ∃ β s2 s3 s4 s5 s6 s7 s8 s9, OkBag β ∧ m Γ = some (.nx, E11 S (.own (encBag β)) s2 s3 s4 s5 s6 s7 s8 s9)
theorem body_rest {S s2 s5 s6 s7 s8 s9 : DL.Slot} {b : Bk} {β : Bag} (hb : OkBk b) (h : OkBag β) : Rest S bodyR (E11 S (.own (encBag β)) s2 (.d (encB b)) (.d (.list ((wholesI b).map tupD))) s5 s6 s7 s8 s9) := by
  have h7 := hb.2.2.1
  have h24 := hb.1
  have hk2 := hb.2.1
  have hwl := wholes_len h24
  obtain ⟨w0, ws, hw⟩ := List.exists_cons_of_ne_nil (wholes_ne h24)
  have hw0 : L2.atI ((wholesI b).map tupD) 0 = some (tupD w0) := by rw [hw]; exact at0
  have hw0r : OkR b w0 := wholes_ok h24 (by rw [hw]; simp)
  have hw0l : w0.length ≤ 4 := by have := each_len hw0r; have := h24.2.1; omega
  -- the readings
  obtain ⟨x1, β1, hx1, h1, e1⟩ := e_some_l (l := (wholesI b).map tupD) h (by rw [hw]; simp) (by rw [List.length_map]; omega)
  obtain ⟨r1, hr1, rfl⟩ := List.mem_map.mp hx1
  obtain ⟨os, Γ', eR, ⟨β2, hb2, rfl⟩, hR⟩ := lc_inv (mi := mRange1 (mC (.int 10))) (g := setS 10) (mt := mYes) (me := mCall 2 F__law_reading (mAc (mVar 1) (mAc (mVar 3) mA0))) (vs := [10])
    (Γ := E11 S (.own (encBag β1)) s2 (.d (encB b)) (.d (.list ((wholesI b).map tupD))) s5 s6 s7 s8 s9) (Γ0 := E11 S (.own (encBag β1)) s2 (.d (encB b)) (.d (.list ((wholesI b).map tupD))) s5 s6 s7 s8 s9) (ts := rngI 10) PyData.int
    (fun Γ => ∃ β', OkBag β' ∧ Γ = E11 S (.own (encBag β')) s2 (.d (encB b)) (.d (.list ((wholesI b).map tupD))) s5 s6 s7 s8 s9) (fun _ o => ∃ r, o = some (tupD r) ∧ OkR b r)
    (rng_x rfl (by decide) (by decide)) rfl ⟨β1, h1, rfl⟩ (by
      rintro t hm _ ⟨β1, hb1, rfl⟩
      obtain ⟨r, β2, e, hb2, hr⟩ := e_reading hb1 hb
      exact ⟨some (tupD r), E11 S (.own (encBag β2)) s2 (.d (encB b)) (.d (.list ((wholesI b).map tupD))) s5 s6 s7 s8 s9, by simp [lcStep, E11, ev_CallX, e], ⟨β2, hb2, rfl⟩, r, rfl, hr⟩) (by rw [rngI_len]; show _ ≤ 1000000; decide)
  obtain ⟨rs, hrs, hrs2⟩ := gather hR
  rw [hrs] at eR
  have hrl : rs.length = 10 := by rw [← each_len hrs2, rngI_len]; rfl
  have hno : OkR b (List.replicate b.traits.length (-1)) := by
    have gen : ∀ ts : List (Str × Int × Int), (∀ t ∈ ts, 1 ≤ t.2.1 ∧ t.2.1 ≤ 2) → PySem.W.EachIs (fun t x => -1 ≤ x ∧ x ≤ t.2.1) ts (List.replicate ts.length (-1)) := fun ts => by
      induction ts with
      | nil => intro _; exact .nil
      | cons t ts ih =>
        intro h
        have := h t (by simp)
        exact .cons ⟨by omega, by omega⟩ (ih fun t ht => h t (List.mem_cons_of_mem _ ht))
    exact gen _ h24.2.2
  have hall : ∀ r ∈ List.replicate b.traits.length (-1) :: r1 :: rs, OkR b r := by
    intro r hr
    rcases List.mem_cons.mp hr with rfl | hr
    · exact hno
    · rcases List.mem_cons.mp hr with rfl | hr
      · exact wholes_ok h24 hr1
      · obtain ⟨_, _, q⟩ := each_mem hrs2 hr
        exact q
  have hit : mSeqI (mBin gAdd (mLst (mDc (mCall 1 F__law_nothing (mAc (mVar 3) mA0)) (mDc (mCall 2 F__law_some (mAc (mVar 1) (mAc (mVar 4) mA0))) mD0))) (mLc (mRange1 (mC (.int 10))) (setS 10) mYes (mCall 2 F__law_reading (mAc (mVar 1) (mAc (mVar 3) mA0))) [10])) (E11 S (.own (encBag β)) s2 (.d (encB b)) (.d (.list ((wholesI b).map tupD))) s5 s6 s7 s8 s9) =
      some ((List.replicate b.traits.length (-1) :: r1 :: rs).map tupD, E11 S (.own (encBag β2)) s2 (.d (encB b)) (.d (.list ((wholesI b).map tupD))) s5 s6 s7 s8 s9) := by
    have ea : mLst (mDc (mCall 1 F__law_nothing (mAc (mVar 3) mA0)) (mDc (mCall 2 F__law_some (mAc (mVar 1) (mAc (mVar 4) mA0))) mD0)) (E11 S (.own (encBag β)) s2 (.d (encB b)) (.d (.list ((wholesI b).map tupD))) s5 s6 s7 s8 s9) = some (.own (.lst [tupD (List.replicate b.traits.length (-1)), tupD r1]), E11 S (.own (encBag β1)) s2 (.d (encB b)) (.d (.list ((wholesI b).map tupD))) s5 s6 s7 s8 s9) := lst_of (dc_d (call1 (F := F__law_nothing) (a := mVar 3) (Γ := E11 S (.own (encBag β)) s2 (.d (encB b)) (.d (.list ((wholesI b).map tupD))) s5 s6 s7 s8 s9) (ev_vd rfl) rfl (e_lnothing hb.1) rfl) (dc_d (call_of (n := 2) (F := F__law_some) (ss := [.bor 1, .d (.list ((wholesI b).map tupD))]) (Γ1 := E11 S (.own (encBag β)) s2 (.d (encB b)) (.d (.list ((wholesI b).map tupD))) s5 s6 s7 s8 s9) (Γ2 := E11 S (.own (encBag β1)) s2 (.d (encB b)) (.d (.list ((wholesI b).map tupD))) s5 s6 s7 s8 s9) (ac_p (m := mVar 1) (ev_vo rfl) (ac_p (m := mVar 4) (ev_vd rfl) rfl)) rfl e1) rfl)) (by simp)
    have eb := bin_of (g := gAdd) ea eR (r := some (.own (.lst ((List.replicate b.traits.length (-1) :: r1 :: rs).map tupD)), E11 S (.own (encBag β2)) s2 (.d (encB b)) (.d (.list ((wholesI b).map tupD))) s5 s6 s7 s8 s9)) (by simp [hrl])
    simp only [ev_SeqI]
    rw [eb]
    rfl
  have hloop := forL_inv (g := setS 5) (mb := mIfS (mNotT (mTru (mCall 3 F__law_reading_right (mAc (mVar 1) (mAc (mVar 3) (mAc (mVar 5) mA0)))))) (mRet 1 (mC (.bool false))) mNext) tupD (fun Γ => ∃ β', OkBag β' ∧ ∃ s5', Γ = E11 S (.own (encBag β')) s2 (.d (encB b)) (.d (.list ((wholesI b).map tupD))) s5' s6 s7 s8 s9) (ts := List.replicate b.traits.length (-1) :: r1 :: rs) (Γ := E11 S (.own (encBag β2)) s2 (.d (encB b)) (.d (.list ((wholesI b).map tupD))) s5 s6 s7 s8 s9) ⟨β2, hb2, _, rfl⟩ (by
      rintro r hr _ ⟨β', hb', s5', rfl⟩
      obtain ⟨β'', e, hb''⟩ := e_right hb' hb (hall r hr)
      refine ⟨E11 S (.own (encBag β'')) s2 (.d (encB b)) (.d (.list ((wholesI b).map tupD))) (.d (tupD r)) s6 s7 s8 s9, ?_, ⟨β'', hb'', _, rfl⟩⟩
      have es : setS 5 (.d (tupD r)) (E11 S (.own (encBag β')) s2 (.d (encB b)) (.d (.list ((wholesI b).map tupD))) s5' s6 s7 s8 s9) = some (E11 S (.own (encBag β')) s2 (.d (encB b)) (.d (.list ((wholesI b).map tupD))) (.d (tupD r)) s6 s7 s8 s9) := by simp [E11]
      unfold forStep
      rw [es]
      exact if_no (not_tru (call_of (ss := [.bor 1, .d (encB b), .d (tupD r)]) (ac_p (ev_vo rfl) (ac_p (ev_vd rfl) (ac_p (ev_vd rfl) rfl))) rfl e)))
  obtain ⟨LL, eL, l1, l2, l3, l4⟩ := e_lots (n := b.traits.length) (by omega) (by have := h24.2.1; omega)
  have hlx : ∀ β, OkBag β → ∃ lot β', F__law_some [.own (encBag β), .own (.lst (LL.map tupD))] = some (.d (tupD lot), [.own (encBag β'), .own (.lst (LL.map tupD))]) ∧ OkBag β' ∧ lot.length ≤ 4 ∧ ∀ x ∈ lot, 0 ≤ x ∧ x < b.traits.length := fun β hβ => by
    obtain ⟨x, β', hx, h', e⟩ := e_some_own (l := LL.map tupD) hβ (by simpa using l1) (by rw [List.length_map]; omega)
    obtain ⟨lot, hl, rfl⟩ := List.mem_map.mp hx
    exact ⟨lot, β', e, h', l3 lot hl, l4 lot hl⟩
  have ht24 := h24.1
  have ht4 := h24.2.1

  obtain ⟨_, ef, ⟨β3, hb3, s5', rfl⟩⟩ := hloop
  obtain ⟨lot, β4, e4, h4, ll4, hlot⟩ := hlx β3 hb3
  obtain ⟨k', β5, e5, k0, k1, h5⟩ := e_take (n := b.kinds.length) h4 (by omega) (by omega)
  obtain ⟨i', β6, e6, i0, i1, h6⟩ := e_take (n := b.traits.length) h5 (by omega) (by omega)
  obtain ⟨k, rfl⟩ : ∃ k : Nat, k' = k := ⟨k'.toNat, by omega⟩
  obtain ⟨i, rfl⟩ : ∃ k : Nat, i' = k := ⟨i'.toNat, by omega⟩
  have hkl : k < b.kinds.length := by omega
  obtain ⟨kd, hkd⟩ : ∃ kd, b.kinds[k]? = some kd := ⟨_, List.getElem?_eq_getElem hkl⟩
  have hkk := (hb.2.2.2.1 kd (List.mem_of_getElem? hkd)).1
  have hil : i < kd.2.2.length := by have := each_len hkk; omega
  obtain ⟨sh, hsh⟩ : ∃ sh, kd.2.2[i]? = some sh := ⟨_, List.getElem?_eq_getElem hil⟩
  have hsl : sh.length ≤ 3 := by
    obtain ⟨_, _, q⟩ := each_mem hkk (List.mem_of_getElem? hsh)
    exact q.2.1
  have aK : L2.atI (b.kinds.map encK) (k : Int) = some (encK kd) := atI_nat (by rw [List.getElem?_map, hkd]; rfl)
  have aS : L2.atI (kd.2.2.map tupD) (i : Int) = some (tupD sh) := atI_nat (by rw [List.getElem?_map, hsh]; rfl)
  have hok2 : okA (.list [.int (priceI b lot), tupD sh]) = true := by
    rw [okA_list, List.all_cons, List.all_cons, okA_tupD]
    rfl
  have hsz2 : szA (.list [.int (priceI b lot), tupD sh]) ≤ 800000 := by
    simp only [szA_list, szAll, szA_int, szA_tupD]
    omega
  obtain ⟨od, β7, e7, h7'⟩ := e_odd h6
  have := forL_inv (g := setS 7) (mb := mIfS (mNotT (mTru (mCall 2 F__law_alike (mAc (mCall 2 F_is_reading (mAc (mVar 3) (mAc (mVar 7) mA0))) (mAc (mCall 2 F__law_is_reading (mAc (mVar 3) (mAc (mVar 7) mA0))) mA0))))) (mRet 1 (mC (.bool false))) mNext) (fun d : Dat => d) (fun Γ => ∃ s7', Γ = (E11 S (.own (encBag β7)) s2 (.d (encB b)) (.d (.list ((wholesI b).map tupD))) s5' (.d (tupD lot)) s7' (.d (.int k)) (.d (.int i)))) (ts := [od, .list (w0.map PyData.int), .tuple (w0.map PyData.int ++ [.int 0]), .tuple ((w0.map PyData.int).drop 1), .tuple (b.traits.map fun _ => PyData.int 9)]) (Γ := (E11 S (.own (encBag β7)) s2 (.d (encB b)) (.d (.list ((wholesI b).map tupD))) s5' (.d (tupD lot)) s7 (.d (.int k)) (.d (.int i)))) ⟨_, rfl⟩ (by
    rintro d _ _ ⟨s7', rfl⟩
    refine ⟨(E11 S (.own (encBag β7)) s2 (.d (encB b)) (.d (.list ((wholesI b).map tupD))) s5' (.d (tupD lot)) (.d d) (.d (.int k)) (.d (.int i))), ?_, ⟨_, rfl⟩⟩
    have es : setS 7 (.d d) (E11 S (.own (encBag β7)) s2 (.d (encB b)) (.d (.list ((wholesI b).map tupD))) s5' (.d (tupD lot)) s7' (.d (.int k)) (.d (.int i))) = some (E11 S (.own (encBag β7)) s2 (.d (encB b)) (.d (.list ((wholesI b).map tupD))) s5' (.d (tupD lot)) (.d d) (.d (.int k)) (.d (.int i))) := by simp [E11]
    unfold forStep
    rw [es]
    exact alike_no (call2 (ev_vd rfl) (ev_vd rfl) (e_isrd hb d) rfl) (call2 (ev_vd rfl) (ev_vd rfl) (e_lisrd hb d) rfl) rfl .d .d rfl (by simp [szA]))
  obtain ⟨_, e8, ⟨s7', rfl⟩⟩ := this
  rw [List.map_id'] at e8
  refine ⟨β7, s2, .d (encB b), .d (.list ((wholesI b).map tupD)), s5', .d (tupD lot), s7', .d (.int k), .d (.int i), h7', ?_⟩
  refine seq_nx (Γ1 := (E11 S (.own (encBag β3)) s2 (.d (encB b)) (.d (.list ((wholesI b).map tupD))) s5' s6 s7 s8 s9)) ((for_of (Γ1 := (E11 S (.own (encBag β2)) s2 (.d (encB b)) (.d (.list ((wholesI b).map tupD))) s5 s6 s7 s8 s9)) hit).trans ef) ?_
  refine seq_nx (Γ1 := (E11 S (.own (encBag β4)) s2 (.d (encB b)) (.d (.list ((wholesI b).map tupD))) s5' (.d (tupD lot)) s7 s8 s9)) (set_of (s := .d (tupD lot)) (Γ1 := (E11 S (.own (encBag β4)) s2 (.d (encB b)) (.d (.list ((wholesI b).map tupD))) s5' s6 s7 s8 s9)) (call_of (ss := [.bor 1, .own (.lst (LL.map tupD))]) (Γ1 := (E11 S (.own (encBag β3)) s2 (.d (encB b)) (.d (.list ((wholesI b).map tupD))) s5' s6 s7 s8 s9)) (ac_p (ev_vo rfl) (ac_p (call1 (d := .int b.traits.length) (by simp [E11, encB]) rfl eL rfl) rfl)) rfl e4) rfl) ?_
  refine seq_nx (Γ1 := (E11 S (.own (encBag β6)) s2 (.d (encB b)) (.d (.list ((wholesI b).map tupD))) s5' (.d (tupD lot)) s7 (.d (.int k)) (.d (.int i)))) ?_ ?_
  · refine par2 (call_of (ss := [.bor 1, .d (.int b.kinds.length)]) (Γ1 := (E11 S (.own (encBag β4)) s2 (.d (encB b)) (.d (.list ((wholesI b).map tupD))) s5' (.d (tupD lot)) s7 s8 s9)) (Γ2 := (E11 S (.own (encBag β5)) s2 (.d (encB b)) (.d (.list ((wholesI b).map tupD))) s5' (.d (tupD lot)) s7 s8 s9)) (ac_p (ev_vo rfl) (ac_p (by simp [E11, encB]) rfl)) rfl e5) (call_of (ss := [.bor 1, .d (.int b.traits.length)]) (Γ1 := (E11 S (.own (encBag β5)) s2 (.d (encB b)) (.d (.list ((wholesI b).map tupD))) s5' (.d (tupD lot)) s7 s8 s9)) (Γ2 := (E11 S (.own (encBag β6)) s2 (.d (encB b)) (.d (.list ((wholesI b).map tupD))) s5' (.d (tupD lot)) s7 s8 s9)) (ac_p (ev_vo rfl) (ac_p (by simp [E11, encB]) rfl)) rfl e6) rfl
  refine seq_nx (Γ1 := (E11 S (.own (encBag β6)) s2 (.d (encB b)) (.d (.list ((wholesI b).map tupD))) s5' (.d (tupD lot)) s7 (.d (.int k)) (.d (.int i)))) (alike_no (d := .list [.int (priceI b lot), tupD sh]) (Γ1 := (E11 S (.own (encBag β6)) s2 (.d (encB b)) (.d (.list ((wholesI b).map tupD))) s5' (.d (tupD lot)) s7 (.d (.int k)) (.d (.int i)))) (Γ2 := (E11 S (.own (encBag β6)) s2 (.d (encB b)) (.d (.list ((wholesI b).map tupD))) s5' (.d (tupD lot)) s7 (.d (.int k)) (.d (.int i)))) (lst_of (dc_d (call2 (ev_vd rfl) (ev_vd rfl) (e_price hlot (by omega)) rfl) (dc_d (call3 (ev_vd rfl) (ev_vd rfl) (ev_vd rfl) (e_shows hkd hsh) rfl) rfl)) (by simp)) (lst_of (dc_d (call2 (ev_vd rfl) (ev_vd rfl) (e_lprice hlot (by omega)) rfl) (dc_d (by simp [E11, encB, aK, encK, aS]) rfl)) (by simp)) rfl .lst .lst hok2 hsz2) ?_
  refine (for_of (Γ1 := (E11 S (.own (encBag β7)) s2 (.d (encB b)) (.d (.list ((wholesI b).map tupD))) s5' (.d (tupD lot)) s7 (.d (.int k)) (.d (.int i)))) (items := [od, .list (w0.map PyData.int), .tuple (w0.map PyData.int ++ [.int 0]), .tuple ((w0.map PyData.int).drop 1), .tuple (b.traits.map fun _ => PyData.int 9)]) ?_).trans ?_
  · have ec : mCall 1 F__law_odd (mAc (mVar 1) mA0) (E11 S (.own (encBag β6)) s2 (.d (encB b)) (.d (.list ((wholesI b).map tupD))) s5' (.d (tupD lot)) s7 (.d (.int k)) (.d (.int i))) = some (.d od, (E11 S (.own (encBag β7)) s2 (.d (encB b)) (.d (.list ((wholesI b).map tupD))) s5' (.d (tupD lot)) s7 (.d (.int k)) (.d (.int i)))) := call_of (ac_p (ev_vo rfl) rfl) rfl e7
    have e9 := lc_map (mi := mSeqI (mBin gIx (mVar 3) (mC (.int 2)))) (g := setS 9) (me := mC (.int 9)) (vs := [9]) (Γ := (E11 S (.own (encBag β7)) s2 (.d (encB b)) (.d (.list ((wholesI b).map tupD))) s5' (.d (tupD lot)) s7 (.d (.int k)) (.d (.int i)))) (Γ0 := (E11 S (.own (encBag β7)) s2 (.d (encB b)) (.d (.list ((wholesI b).map tupD))) s5' (.d (tupD lot)) s7 (.d (.int k)) (.d (.int i)))) (ts := b.traits) encT (fun _ => .int 9) (by simp [E11, encB]) rfl (fun t _ => by simp [lcStep, E11]) (by show _ ≤ 1000000; omega)
    have ew : mBin gIx (mVar 4) (mC (.int 0)) (E11 S (.own (encBag β7)) s2 (.d (encB b)) (.d (.list ((wholesI b).map tupD))) s5' (.d (tupD lot)) s7 (.d (.int k)) (.d (.int i))) = some (.d (tupD w0), (E11 S (.own (encBag β7)) s2 (.d (encB b)) (.d (.list ((wholesI b).map tupD))) s5' (.d (tupD lot)) s7 (.d (.int k)) (.d (.int i)))) := by simp [E11, hw0]
    have ed : cutL (w0.map PyData.int) (some 1) none = (w0.map PyData.int).drop 1 := cut_drop (i := 1)
    have hsl : mSl (mBin gIx (mVar 4) (mC (.int 0))) (mO1 (mC (.int 1))) mO0 (E11 S (.own (encBag β7)) s2 (.d (encB b)) (.d (.list ((wholesI b).map tupD))) s5' (.d (tupD lot)) s7 (.d (.int k)) (.d (.int i))) = some (.d (.tuple ((w0.map PyData.int).drop 1)), (E11 S (.own (encBag β7)) s2 (.d (encB b)) (.d (.list ((wholesI b).map tupD))) s5' (.d (tupD lot)) s7 (.d (.int k)) (.d (.int i)))) := by
      unfold mSl
      rw [ew]
      simp [tupD, ed]
    have e0 : mTup (mDc (mC (.int 0)) mD0) (E11 S (.own (encBag β7)) s2 (.d (encB b)) (.d (.list ((wholesI b).map tupD))) s5' (.d (tupD lot)) s7 (.d (.int k)) (.d (.int i))) = some (.d (.tuple [.int 0]), (E11 S (.own (encBag β7)) s2 (.d (encB b)) (.d (.list ((wholesI b).map tupD))) s5' (.d (tupD lot)) s7 (.d (.int k)) (.d (.int i)))) := tup_of (dc_d rfl rfl) (by simp)
    exact seqI_of (tup_of (dc_d ec (dc_o (o := .lst (w0.map PyData.int)) (un_of ew rfl) (dc_d (bin_of ew e0 (by simp [tupD]; omega)) (dc_d hsl (dc_d (un_of e9 rfl) rfl))))) (by simp))
  · exact e8
end K22

set_option Elab.async false
set_option linter.all false
set_option maxRecDepth 100000
set_option maxHeartbeats 4000000
namespace K22
open PySem DL
abbrev bodyL : MS := (mSeq (mSet (setS 3) (mCall 2 F__law_turned (mAc (mVar 1) (mAc (mCall 1 F__law_book (mAc (mVar 1) mA0)) mA0)))) (mSeq (mSet (setS 4) (mCall 1 F__law_wholes (mAc (mVar 3) mA0))) (mSeq (mIfS (mNotT (mTru (mCall 2 F__law_alike (mAc (mLst (mDc (mCall 1 F_all_readings (mAc (mVar 3) mA0)) (mDc (mCall 1 F_nothing_read (mAc (mVar 3) mA0)) mD0))) (mAc (mLst (mDc (mVar 4) (mDc (mCall 1 F__law_nothing (mAc (mVar 3) mA0)) mD0))) mA0))))) (mRet 1 (mC (.bool false))) mNext) (mSeq (mFor (mSeqI (mBin gAdd (mLst (mDc (mCall 1 F__law_nothing (mAc (mVar 3) mA0)) (mDc (mCall 2 F__law_some (mAc (mVar 1) (mAc (mVar 4) mA0))) mD0))) (mLc (mRange1 (mC (.int 10))) (setS 10) mYes (mCall 2 F__law_reading (mAc (mVar 1) (mAc (mVar 3) mA0))) [10]))) (setS 5) (mIfS (mNotT (mTru (mCall 3 F__law_reading_right (mAc (mVar 1) (mAc (mVar 3) (mAc (mVar 5) mA0)))))) (mRet 1 (mC (.bool false))) mNext)) (mSeq (mSet (setS 6) (mCall 2 F__law_some (mAc (mVar 1) (mAc (mCall 1 F__law_lots (mAc (mUn (gSc1 lenD) (mBin gIx (mVar 3) (mC (.int 2)))) mA0)) mA0)))) (mSeq (mPar [8, 9] (mAc (mCall 2 F__law_take (mAc (mVar 1) (mAc (mUn (gSc1 lenD) (mBin gIx (mVar 3) (mC (.int 3)))) mA0))) (mAc (mCall 2 F__law_take (mAc (mVar 1) (mAc (mUn (gSc1 lenD) (mBin gIx (mVar 3) (mC (.int 2)))) mA0))) mA0))) (mSeq (mIfS (mNotT (mTru (mCall 2 F__law_alike (mAc (mLst (mDc (mCall 2 F_price_of (mAc (mVar 3) (mAc (mVar 6) mA0))) (mDc (mCall 3 F_shows_of (mAc (mVar 3) (mAc (mVar 8) (mAc (mVar 9) mA0)))) mD0))) (mAc (mLst (mDc (mCall 2 F__law_price (mAc (mVar 3) (mAc (mVar 6) mA0))) (mDc (mBin gIx (mBin gIx (mBin gIx (mBin gIx (mVar 3) (mC (.int 3))) (mVar 8)) (mC (.int 2))) (mVar 9)) mD0))) mA0))))) (mRet 1 (mC (.bool false))) mNext) (mFor (mSeqI (mTup (mDc (mCall 1 F__law_odd (mAc (mVar 1) mA0)) (mDc (mUn gList (mBin gIx (mVar 4) (mC (.int 0)))) (mDc (mBin gAdd (mBin gIx (mVar 4) (mC (.int 0))) (mTup (mDc (mC (.int 0)) mD0))) (mDc (mSl (mBin gIx (mVar 4) (mC (.int 0))) (mO1 (mC (.int 1))) mO0) (mDc (mUn gTuple (mLc (mSeqI (mBin gIx (mVar 3) (mC (.int 2)))) (setS 9) mYes (mC (.int 9)) [9])) mD0))))))) (setS 7) (mIfS (mNotT (mTru (mCall 2 F__law_alike (mAc (mCall 2 F_is_reading (mAc (mVar 3) (mAc (mVar 7) mA0))) (mAc (mCall 2 F__law_is_reading (mAc (mVar 3) (mAc (mVar 7) mA0))) mA0))))) (mRet 1 (mC (.bool false))) mNext)))))))))
theorem body_ok {S s3 s4 s5 s6 s7 s8 s9 : DL.Slot} {x : Int} {β : Bag} (h : OkBag β) : Rest S bodyL (E11 S (.own (encBag β)) (.d (.int x)) s3 s4 s5 s6 s7 s8 s9) := by
  obtain ⟨b0, β1, e1, h1, hb0⟩ := e_book h
  obtain ⟨b, β2, e2, hb2, hb⟩ := e_turned h1 hb0
  obtain ⟨rr, er, hrr⟩ := e_wholes hb.1
  have hwl := wholes_len hb.1
  have hll := hb.1.2.1
  have hwr : ∀ r ∈ wholesI b, r.length ≤ 4 := fun r hr => by
    have := each_len (wholes_ok hb.1 hr)
    omega
  have hok1 : okA (.list [.list ((wholesI b).map tupD), tupD (List.replicate b.traits.length (-1))]) = true := by
    rw [okA_list, List.all_cons, List.all_cons, okA_list, okA_map (fun k _ => okA_tupD _), okA_tupD]
    rfl
  have hsz1 : szA (.list [.list ((wholesI b).map tupD), tupD (List.replicate b.traits.length (-1))]) ≤ 800000 := by
    have q1 := szAll_map (f := tupD) (c := 5) (l := wholesI b) fun r hr => by
      rw [szA_tupD]
      have := hwr r hr
      omega
    simp only [szA_list, szAll, szA_tupD, List.length_replicate]
    omega
  have key : ∀ {Γ Γ1 : DL.Env} {a b : MS}, a Γ = some (.nx, Γ1) → Rest S b Γ1 → Rest S (mSeq a b) Γ := fun h1 h2 => by
    obtain ⟨β, s2, s3, s4, s5, s6, s7, s8, s9, q1, q2⟩ := h2
    exact ⟨β, s2, s3, s4, s5, s6, s7, s8, s9, q1, seq_nx h1 q2⟩
  refine key (Γ1 := (E11 S (.own (encBag β2)) (.d (.int x)) (.d (encB b)) s4 s5 s6 s7 s8 s9)) (set_of (s := .d (encB b)) (Γ1 := (E11 S (.own (encBag β2)) (.d (.int x)) s3 s4 s5 s6 s7 s8 s9)) (call_of (ss := [.bor 1, .d (encB b0)]) (Γ1 := (E11 S (.own (encBag β1)) (.d (.int x)) s3 s4 s5 s6 s7 s8 s9)) (ac_p (ev_vo rfl) (ac_of (call_of (ss := [.bor 1]) (ac_p (ev_vo rfl) rfl) rfl e1) rfl)) rfl e2) rfl) ?_
  rcases hrr with rfl | rfl
  · refine key (Γ1 := (E11 S (.own (encBag β2)) (.d (.int x)) (.d (encB b)) (.own (.lst ((wholesI b).map tupD))) s5 s6 s7 s8 s9)) (set_of (call1 (ev_vd rfl) rfl er rfl) rfl) ?_
    refine key (Γ1 := (E11 S (.own (encBag β2)) (.d (.int x)) (.d (encB b)) (.d (.list ((wholesI b).map tupD))) s5 s6 s7 s8 s9)) (alike_no (Γ1 := (E11 S (.own (encBag β2)) (.d (.int x)) (.d (encB b)) (.own (.lst ((wholesI b).map tupD))) s5 s6 s7 s8 s9)) (Γ2 := (E11 S (.own (encBag β2)) (.d (.int x)) (.d (encB b)) (.d (.list ((wholesI b).map tupD))) s5 s6 s7 s8 s9)) (lst_of (dc_o (call1 (ev_vd rfl) rfl (e_all hb.1) rfl) (dc_d (call1 (ev_vd rfl) rfl (e_nothing hb.1) rfl) rfl)) (by simp)) (lst_of (dc_b rfl (dc_d (call1 (ev_vd rfl) rfl (e_lnothing hb.1) rfl) rfl)) (by simp)) rfl .lst .lst hok1 hsz1) ?_
    exact body_rest hb hb2
  · refine key (Γ1 := (E11 S (.own (encBag β2)) (.d (.int x)) (.d (encB b)) (.d (.list ((wholesI b).map tupD))) s5 s6 s7 s8 s9)) (set_of (call1 (ev_vd rfl) rfl er rfl) rfl) ?_
    refine key (Γ1 := (E11 S (.own (encBag β2)) (.d (.int x)) (.d (encB b)) (.d (.list ((wholesI b).map tupD))) s5 s6 s7 s8 s9)) (alike_no (Γ1 := (E11 S (.own (encBag β2)) (.d (.int x)) (.d (encB b)) (.d (.list ((wholesI b).map tupD))) s5 s6 s7 s8 s9)) (Γ2 := (E11 S (.own (encBag β2)) (.d (.int x)) (.d (encB b)) (.d (.list ((wholesI b).map tupD))) s5 s6 s7 s8 s9)) (lst_of (dc_o (call1 (ev_vd rfl) rfl (e_all hb.1) rfl) (dc_d (call1 (ev_vd rfl) rfl (e_nothing hb.1) rfl) rfl)) (by simp)) (lst_of (dc_d (ev_vd rfl) (dc_d (call1 (ev_vd rfl) rfl (e_lnothing hb.1) rfl) rfl)) (by simp)) rfl .lst .lst hok1 hsz1) ?_
    exact body_rest hb hb2
theorem law_true (ns : List Int) (h : ns.length ≤ 63) : ∃ args', F_law [.d (.list (ns.map PyData.int))] = some (.d (.bool true), args') := by
  obtain ⟨β, e, hb⟩ := e_bag h
  obtain ⟨Γ', el, ⟨β1, s2, s3, s4, s5, s6, s7, s8, s9, hb1, rfl⟩⟩ := forL_inv (g := setS 2) (mb := bodyL) PyData.int (fun Γ => ∃ β s2 s3 s4 s5 s6 s7 s8 s9, OkBag β ∧ Γ = E11 (.d (.list (ns.map PyData.int))) (.own (encBag β)) s2 s3 s4 s5 s6 s7 s8 s9) (ts := rngI 4) (Γ := E11 (.d (.list (ns.map PyData.int))) (.own (encBag β)) .no .no .no .no .no .no .no .no) ⟨β, .no, .no, .no, .no, .no, .no, .no, .no, hb, rfl⟩ (by
    rintro x _ _ ⟨β, s2, s3, s4, s5, s6, s7, s8, s9, hb, rfl⟩
    obtain ⟨β1, t2, t3, t4, t5, t6, t7, t8, t9, q1, q2⟩ := body_ok (S := .d (.list (ns.map PyData.int))) (s3 := s3) (s4 := s4) (s5 := s5) (s6 := s6) (s7 := s7) (s8 := s8) (s9 := s9) (x := x) hb
    refine ⟨_, ?_, ⟨β1, t2, t3, t4, t5, t6, t7, t8, t9, q1, rfl⟩⟩
    have es : setS 2 (.d (.int x)) (E11 (.d (.list (ns.map PyData.int))) (.own (encBag β)) s2 s3 s4 s5 s6 s7 s8 s9) = some (E11 (.d (.list (ns.map PyData.int))) (.own (encBag β)) (.d (.int x)) s3 s4 s5 s6 s7 s8 s9) := by simp [E11]
    unfold forStep
    rw [es]
    exact q2)
  refine ⟨_, ev_run (Γ' := E11 (.d (.list (ns.map PyData.int))) (.own (encBag β1)) s2 s3 s4 s5 s6 s7 s8 s9) rfl rfl ?_ rfl⟩
  exact seq_nx (set_of (call1 (ev_vd rfl) rfl e rfl) (show setS 1 _ _ = some (E11 (.d (.list (ns.map PyData.int))) (.own (encBag β)) .no .no .no .no .no .no .no .no) from rfl)) (seq_nx ((for_of (rng_x (x := 4) rfl (by decide) (by decide))).trans el) (ret_of rfl rfl))
end K22

set_option Elab.async false
set_option linter.all false
set_option maxRecDepth 100000
set_option maxHeartbeats 0
namespace K22
open PySem PySem.Spec PyProof.Rows L2 DL
def dd_is_integer : He.DefD := ⟨("is_integer", none), "is_integer", "is_integer", defArgs s_is_integer, defBody s_is_integer, defScope s_is_integer, [], []⟩
def dd_is_tuple_of : He.DefD := ⟨("is_tuple_of", none), "is_tuple_of", "is_tuple_of", defArgs s_is_tuple_of, defBody s_is_tuple_of, defScope s_is_tuple_of, [], []⟩
def dd_shows_of : He.DefD := ⟨("shows_of", none), "shows_of", "shows_of", defArgs s_shows_of, defBody s_shows_of, defScope s_shows_of, [], []⟩
def dd_nothing_read : He.DefD := ⟨("nothing_read", none), "nothing_read", "nothing_read", defArgs s_nothing_read, defBody s_nothing_read, defScope s_nothing_read, [], []⟩
def dd_is_whole : He.DefD := ⟨("is_whole", none), "is_whole", "is_whole", defArgs s_is_whole, defBody s_is_whole, defScope s_is_whole, [], []⟩
def dd_read_traits : He.DefD := ⟨("read_traits", none), "read_traits", "read_traits", defArgs s_read_traits, defBody s_read_traits, defScope s_read_traits, [], []⟩
def dd_unread_traits : He.DefD := ⟨("unread_traits", none), "unread_traits", "unread_traits", defArgs s_unread_traits, defBody s_unread_traits, defScope s_unread_traits, [], []⟩
def dd_with_read : He.DefD := ⟨("with_read", none), "with_read", "with_read", defArgs s_with_read, defBody s_with_read, defScope s_with_read, [], []⟩
def dd_goes_on : He.DefD := ⟨("goes_on", none), "goes_on", "goes_on", defArgs s_goes_on, defBody s_goes_on, defScope s_goes_on, [], []⟩
def dd_groups_of : He.DefD := ⟨("groups_of", none), "groups_of", "groups_of", defArgs s_groups_of, defBody s_groups_of, defScope s_groups_of, [], []⟩
def dd_price_of : He.DefD := ⟨("price_of", none), "price_of", "price_of", defArgs s_price_of, defBody s_price_of, defScope s_price_of, [], []⟩
def dd_all_readings : He.DefD := ⟨("all_readings", none), "all_readings", "all_readings", defArgs s_all_readings, defBody s_all_readings, defScope s_all_readings, [], []⟩
def dd__law_bag : He.DefD := ⟨("_law_bag", none), "_law_bag", "_law_bag", defArgs s__law_bag, defBody s__law_bag, defScope s__law_bag, [], []⟩
def dd__law_take : He.DefD := ⟨("_law_take", none), "_law_take", "_law_take", defArgs s__law_take, defBody s__law_take, defScope s__law_take, [], []⟩
def dd__law_is_int : He.DefD := ⟨("_law_is_int", none), "_law_is_int", "_law_is_int", defArgs s__law_is_int, defBody s__law_is_int, defScope s__law_is_int, [], []⟩
def dd__law_alike : He.DefD := ⟨("_law_alike", none), "_law_alike", "_law_alike", defArgs s__law_alike, defBody s__law_alike, defScope s__law_alike, [], []⟩
def dd__law_rows_of : He.DefD := ⟨("_law_rows_of", none), "_law_rows_of", "_law_rows_of", defArgs s__law_rows_of, defBody s__law_rows_of, defScope s__law_rows_of, [], []⟩
def dd__law_nothing : He.DefD := ⟨("_law_nothing", none), "_law_nothing", "_law_nothing", defArgs s__law_nothing, defBody s__law_nothing, defScope s__law_nothing, [], []⟩
def dd__law_with : He.DefD := ⟨("_law_with", none), "_law_with", "_law_with", defArgs s__law_with, defBody s__law_with, defScope s__law_with, [], []⟩
def dd__law_unread : He.DefD := ⟨("_law_unread", none), "_law_unread", "_law_unread", defArgs s__law_unread, defBody s__law_unread, defScope s__law_unread, [], []⟩
def dd__law_misses : He.DefD := ⟨("_law_misses", none), "_law_misses", "_law_misses", defArgs s__law_misses, defBody s__law_misses, defScope s__law_misses, [], []⟩
def dd__law_groups : He.DefD := ⟨("_law_groups", none), "_law_groups", "_law_groups", defArgs s__law_groups, defBody s__law_groups, defScope s__law_groups, [], []⟩
def dd__law_price : He.DefD := ⟨("_law_price", none), "_law_price", "_law_price", defArgs s__law_price, defBody s__law_price, defScope s__law_price, [], []⟩
def dd__law_lots : He.DefD := ⟨("_law_lots", none), "_law_lots", "_law_lots", defArgs s__law_lots, defBody s__law_lots, defScope s__law_lots, [], []⟩
def dd_is_within : He.DefD := ⟨("is_within", none), "is_within", "is_within", defArgs s_is_within, defBody s_is_within, defScope s_is_within, [], []⟩
def dd_misses : He.DefD := ⟨("misses", none), "misses", "misses", defArgs s_misses, defBody s_misses, defScope s_misses, [], []⟩
def dd_next_readings : He.DefD := ⟨("next_readings", none), "next_readings", "next_readings", defArgs s_next_readings, defBody s_next_readings, defScope s_next_readings, [], []⟩
def dd__law_some : He.DefD := ⟨("_law_some", none), "_law_some", "_law_some", defArgs s__law_some, defBody s__law_some, defScope s__law_some, [], []⟩
def dd__law_told : He.DefD := ⟨("_law_told", none), "_law_told", "_law_told", defArgs s__law_told, defBody s__law_told, defScope s__law_told, [], []⟩
def dd__law_wholes : He.DefD := ⟨("_law_wholes", none), "_law_wholes", "_law_wholes", defArgs s__law_wholes, defBody s__law_wholes, defScope s__law_wholes, [], []⟩
def dd__law_states : He.DefD := ⟨("_law_states", none), "_law_states", "_law_states", defArgs s__law_states, defBody s__law_states, defScope s__law_states, [], []⟩
def dd__law_reading : He.DefD := ⟨("_law_reading", none), "_law_reading", "_law_reading", defArgs s__law_reading, defBody s__law_reading, defScope s__law_reading, [], []⟩
def dd__law_is_reading : He.DefD := ⟨("_law_is_reading", none), "_law_is_reading", "_law_is_reading", defArgs s__law_is_reading, defBody s__law_is_reading, defScope s__law_is_reading, [], []⟩
def dd__law_can_be : He.DefD := ⟨("_law_can_be", none), "_law_can_be", "_law_can_be", defArgs s__law_can_be, defBody s__law_can_be, defScope s__law_can_be, [], []⟩
def dd_is_reading : He.DefD := ⟨("is_reading", none), "is_reading", "is_reading", defArgs s_is_reading, defBody s_is_reading, defScope s_is_reading, [], []⟩
def dd_fits : He.DefD := ⟨("fits", none), "fits", "fits", defArgs s_fits, defBody s_fits, defScope s_fits, [], []⟩
def dd__law_odd : He.DefD := ⟨("_law_odd", none), "_law_odd", "_law_odd", defArgs s__law_odd, defBody s__law_odd, defScope s__law_odd, [], []⟩
def dd__law_a_kind : He.DefD := ⟨("_law_a_kind", none), "_law_a_kind", "_law_a_kind", defArgs s__law_a_kind, defBody s__law_a_kind, defScope s__law_a_kind, [], []⟩
def dd_told : He.DefD := ⟨("told", none), "told", "told", defArgs s_told, defBody s_told, defScope s_told, [], []⟩
def dd__law_bent : He.DefD := ⟨("_law_bent", none), "_law_bent", "_law_bent", defArgs s__law_bent, defBody s__law_bent, defScope s__law_bent, [], []⟩
def dd__law_book : He.DefD := ⟨("_law_book", none), "_law_book", "_law_book", defArgs s__law_book, defBody s__law_book, defScope s__law_book, [], []⟩
def dd__law_turned : He.DefD := ⟨("_law_turned", none), "_law_turned", "_law_turned", defArgs s__law_turned, defBody s__law_turned, defScope s__law_turned, [], []⟩
def dd_is_strange : He.DefD := ⟨("is_strange", none), "is_strange", "is_strange", defArgs s_is_strange, defBody s_is_strange, defScope s_is_strange, [], []⟩
def dd_sure_kind : He.DefD := ⟨("sure_kind", none), "sure_kind", "sure_kind", defArgs s_sure_kind, defBody s_sure_kind, defScope s_sure_kind, [], []⟩
def dd_sure_group : He.DefD := ⟨("sure_group", none), "sure_group", "sure_group", defArgs s_sure_group, defBody s_sure_group, defScope s_sure_group, [], []⟩
def dd__law_reading_right : He.DefD := ⟨("_law_reading_right", none), "_law_reading_right", "_law_reading_right", defArgs s__law_reading_right, defBody s__law_reading_right, defScope s__law_reading_right, [], []⟩
def dd_law : He.DefD := ⟨("law", none), "law", "law", defArgs s_law, defBody s_law, defScope s_law, [], []⟩
def fnH : List He.DefD := [dd_is_integer, dd_is_tuple_of, dd_shows_of, dd_nothing_read, dd_is_whole, dd_read_traits, dd_unread_traits, dd_with_read, dd_goes_on, dd_groups_of, dd_price_of, dd_all_readings, dd__law_bag, dd__law_take, dd__law_is_int, dd__law_alike, dd__law_rows_of, dd__law_nothing, dd__law_with, dd__law_unread, dd__law_misses, dd__law_groups, dd__law_price, dd__law_lots, dd_is_within, dd_misses, dd_next_readings, dd__law_some, dd__law_told, dd__law_wholes, dd__law_states, dd__law_reading, dd__law_is_reading, dd__law_can_be, dd_is_reading, dd_fits, dd__law_odd, dd__law_a_kind, dd_told, dd__law_bent, dd__law_book, dd__law_turned, dd_is_strange, dd_sure_kind, dd_sure_group, dd__law_reading_right, dd_law]
def faH : List He.Fa := [.free "abs", .free "all", .free "bool", .free "enumerate", .free "int", .free "isinstance", .free "len", .free "list", .free "range", .free "set", .free "sorted", .free "str", .free "sum", .free "tuple", .free "zip", .int "UNREAD" (-1), .glo "is_integer", .glo "is_tuple_of", .glo "shows_of", .glo "nothing_read", .glo "is_whole", .glo "read_traits", .glo "unread_traits", .glo "with_read", .glo "goes_on", .glo "groups_of", .glo "price_of", .glo "all_readings", .glo "_law_bag", .glo "_law_take", .glo "_law_is_int", .glo "_law_alike", .glo "_law_rows_of", .glo "_law_nothing", .glo "_law_with", .glo "_law_unread", .glo "_law_misses", .glo "_law_groups", .glo "_law_price", .glo "_law_lots", .glo "is_within", .glo "misses", .glo "next_readings", .glo "_law_some", .glo "_law_told", .glo "_law_wholes", .glo "_law_states", .glo "_law_reading", .glo "_law_is_reading", .glo "_law_can_be", .glo "is_reading", .glo "fits", .glo "_law_odd", .glo "_law_a_kind", .glo "told", .glo "_law_bent", .glo "_law_book", .glo "_law_turned", .glo "is_strange", .glo "sure_kind", .glo "sure_group", .glo "_law_reading_right", .glo "law"]
def tfH : List He.Defn := [("_law_lots", none)]
def exH (K : PySem.W.Frag) : Bool := (K.all fun q => !(q.2.cls == .type "list"))
abbrev R : PySem.W.OpenRow := PySem.W.OpenLaw.row PySem.Challenge.rw_kindkey_k22_what_kinds_miss_and_which_fi
abbrev hk : PySem.W.Hook := He.hookX 5 faH fnH [] tfH exH
def ob (s : PySem.W.SharedT) : He.AlX := He.obsX 5 faH fnH [] tfH exH (HandSHeadRun.getT s)
theorem ob_eq (s : PySem.W.SharedT) : ob s = hk.obs s.abs := He.obsX_eq (HandSHeadRun.getT_eq s)
def loose0 : List Str := ["is_integer", "is_within", "is_tuple_of", "UNREAD", "shows_of", "nothing_read", "is_reading", "is_whole", "read_traits", "unread_traits", "with_read", "goes_on", "misses", "fits", "told", "is_strange", "groups_of", "sure_kind", "sure_group", "price_of", "all_readings", "next_readings", "_law_bag", "_law_take", "_law_some", "_law_is_int", "_law_alike", "_law_odd", "_law_bent", "_law_rows_of"]
def loose1 : List Str := ["_law_nothing", "_law_with", "_law_unread", "_law_misses", "_law_told", "_law_groups", "_law_price", "_law_wholes", "_law_lots", "_law_states", "_law_a_kind", "_law_book", "_law_turned", "_law_reading", "_law_is_reading", "_law_can_be", "_law_reading_right"]
def looseH : List Str := loose0 ++ loose1
theorem runH (w : World) : HandSHeadRun.RunEq R (PySem.W.view R.prog [50]) hk ob 6000 looseH w := by
  intro os
  kernel_rfl
abbrev tabsI (K : PySem.W.Frag) : TabsC := ⟨tfH.map fun p => ((He.cT K p).2, ((p.1 ++ ".<locals>.") ++ "<lambda>"))⟩
theorem fxH {w : World} {K : PySem.W.Frag} {h base : Heap} {mg : Str → Option Value} (X : K.In base) (G : base.Ns mainGlobals mg) (c : He.SaysX faH fnH [] tfH exH w h K) (TB : ∀ p ∈ tfH.map (He.cT K), LamX.TabB base mg p.1 p.2) : @Fx (tabsI K) K mg base :=
  letI := tabsI K
  {fr_abs := He.free_ok X G (c.t.d.fact 0 (f := .free "abs") rfl),
    fr_all := He.free_ok X G (c.t.d.fact 1 (f := .free "all") rfl),
    fr_bool := He.free_ok X G (c.t.d.fact 2 (f := .free "bool") rfl),
    fr_enumerate := He.free_ok X G (c.t.d.fact 3 (f := .free "enumerate") rfl),
    fr_int := He.free_ok X G (c.t.d.fact 4 (f := .free "int") rfl),
    fr_isinstance := He.free_ok X G (c.t.d.fact 5 (f := .free "isinstance") rfl),
    fr_len := He.free_ok X G (c.t.d.fact 6 (f := .free "len") rfl),
    fr_list := He.free_ok X G (c.t.d.fact 7 (f := .free "list") rfl),
    fr_range := He.free_ok X G (c.t.d.fact 8 (f := .free "range") rfl),
    fr_set := He.free_ok X G (c.t.d.fact 9 (f := .free "set") rfl),
    fr_sorted := He.free_ok X G (c.t.d.fact 10 (f := .free "sorted") rfl),
    fr_str := He.free_ok X G (c.t.d.fact 11 (f := .free "str") rfl),
    fr_sum := He.free_ok X G (c.t.d.fact 12 (f := .free "sum") rfl),
    fr_tuple := He.free_ok X G (c.t.d.fact 13 (f := .free "tuple") rfl),
    fr_zip := He.free_ok X G (c.t.d.fact 14 (f := .free "zip") rfl),
    c_UNREAD := He.int_ok X G (c.t.d.fact 15 (f := .int "UNREAD" (-1)) rfl),
    fd_is_integer := let ⟨fd, FD⟩ := c.t.d.def_ 0 (d := dd_is_integer) rfl; ⟨_, fd, FD, He.glo_ok X G (c.t.d.fact 16 (f := .glo "is_integer") rfl)⟩,
    fd_is_tuple_of := let ⟨fd, FD⟩ := c.t.d.def_ 1 (d := dd_is_tuple_of) rfl; ⟨_, fd, FD, He.glo_ok X G (c.t.d.fact 17 (f := .glo "is_tuple_of") rfl)⟩,
    fd_shows_of := let ⟨fd, FD⟩ := c.t.d.def_ 2 (d := dd_shows_of) rfl; ⟨_, fd, FD, He.glo_ok X G (c.t.d.fact 18 (f := .glo "shows_of") rfl)⟩,
    fd_nothing_read := let ⟨fd, FD⟩ := c.t.d.def_ 3 (d := dd_nothing_read) rfl; ⟨_, fd, FD, He.glo_ok X G (c.t.d.fact 19 (f := .glo "nothing_read") rfl)⟩,
    fd_is_whole := let ⟨fd, FD⟩ := c.t.d.def_ 4 (d := dd_is_whole) rfl; ⟨_, fd, FD, He.glo_ok X G (c.t.d.fact 20 (f := .glo "is_whole") rfl)⟩,
    fd_read_traits := let ⟨fd, FD⟩ := c.t.d.def_ 5 (d := dd_read_traits) rfl; ⟨_, fd, FD, He.glo_ok X G (c.t.d.fact 21 (f := .glo "read_traits") rfl)⟩,
    fd_unread_traits := let ⟨fd, FD⟩ := c.t.d.def_ 6 (d := dd_unread_traits) rfl; ⟨_, fd, FD, He.glo_ok X G (c.t.d.fact 22 (f := .glo "unread_traits") rfl)⟩,
    fd_with_read := let ⟨fd, FD⟩ := c.t.d.def_ 7 (d := dd_with_read) rfl; ⟨_, fd, FD, He.glo_ok X G (c.t.d.fact 23 (f := .glo "with_read") rfl)⟩,
    fd_goes_on := let ⟨fd, FD⟩ := c.t.d.def_ 8 (d := dd_goes_on) rfl; ⟨_, fd, FD, He.glo_ok X G (c.t.d.fact 24 (f := .glo "goes_on") rfl)⟩,
    fd_groups_of := let ⟨fd, FD⟩ := c.t.d.def_ 9 (d := dd_groups_of) rfl; ⟨_, fd, FD, He.glo_ok X G (c.t.d.fact 25 (f := .glo "groups_of") rfl)⟩,
    fd_price_of := let ⟨fd, FD⟩ := c.t.d.def_ 10 (d := dd_price_of) rfl; ⟨_, fd, FD, He.glo_ok X G (c.t.d.fact 26 (f := .glo "price_of") rfl)⟩,
    fd_all_readings := let ⟨fd, FD⟩ := c.t.d.def_ 11 (d := dd_all_readings) rfl; ⟨_, fd, FD, He.glo_ok X G (c.t.d.fact 27 (f := .glo "all_readings") rfl)⟩,
    fd__law_bag := let ⟨fd, FD⟩ := c.t.d.def_ 12 (d := dd__law_bag) rfl; ⟨_, fd, FD, He.glo_ok X G (c.t.d.fact 28 (f := .glo "_law_bag") rfl)⟩,
    fd__law_take := let ⟨fd, FD⟩ := c.t.d.def_ 13 (d := dd__law_take) rfl; ⟨_, fd, FD, He.glo_ok X G (c.t.d.fact 29 (f := .glo "_law_take") rfl)⟩,
    fd__law_is_int := let ⟨fd, FD⟩ := c.t.d.def_ 14 (d := dd__law_is_int) rfl; ⟨_, fd, FD, He.glo_ok X G (c.t.d.fact 30 (f := .glo "_law_is_int") rfl)⟩,
    fd__law_alike := let ⟨fd, FD⟩ := c.t.d.def_ 15 (d := dd__law_alike) rfl; ⟨_, fd, FD, He.glo_ok X G (c.t.d.fact 31 (f := .glo "_law_alike") rfl)⟩,
    fd__law_rows_of := let ⟨fd, FD⟩ := c.t.d.def_ 16 (d := dd__law_rows_of) rfl; ⟨_, fd, FD, He.glo_ok X G (c.t.d.fact 32 (f := .glo "_law_rows_of") rfl)⟩,
    fd__law_nothing := let ⟨fd, FD⟩ := c.t.d.def_ 17 (d := dd__law_nothing) rfl; ⟨_, fd, FD, He.glo_ok X G (c.t.d.fact 33 (f := .glo "_law_nothing") rfl)⟩,
    fd__law_with := let ⟨fd, FD⟩ := c.t.d.def_ 18 (d := dd__law_with) rfl; ⟨_, fd, FD, He.glo_ok X G (c.t.d.fact 34 (f := .glo "_law_with") rfl)⟩,
    fd__law_unread := let ⟨fd, FD⟩ := c.t.d.def_ 19 (d := dd__law_unread) rfl; ⟨_, fd, FD, He.glo_ok X G (c.t.d.fact 35 (f := .glo "_law_unread") rfl)⟩,
    fd__law_misses := let ⟨fd, FD⟩ := c.t.d.def_ 20 (d := dd__law_misses) rfl; ⟨_, fd, FD, He.glo_ok X G (c.t.d.fact 36 (f := .glo "_law_misses") rfl)⟩,
    fd__law_groups := let ⟨fd, FD⟩ := c.t.d.def_ 21 (d := dd__law_groups) rfl; ⟨_, fd, FD, He.glo_ok X G (c.t.d.fact 37 (f := .glo "_law_groups") rfl)⟩,
    fd__law_price := let ⟨fd, FD⟩ := c.t.d.def_ 22 (d := dd__law_price) rfl; ⟨_, fd, FD, He.glo_ok X G (c.t.d.fact 38 (f := .glo "_law_price") rfl)⟩,
    fd__law_lots := by
      obtain ⟨fd, FD⟩ := c.t.d.def_ 23 (d := dd__law_lots) rfl
      exact ⟨_, fd, FD, He.glo_ok X G (c.t.d.fact 39 (f := .glo "_law_lots") rfl), _, _, code_of (p := ("_law_lots", none)) FD, TB (He.cT K ("_law_lots", none)) (List.mem_map.mpr ⟨("_law_lots", none), by decide, rfl⟩), List.mem_map.mpr ⟨("_law_lots", none), by decide, rfl⟩, fun p hp e => by rw [List.mem_singleton.mp hp]⟩,
    fd_is_within := let ⟨fd, FD⟩ := c.t.d.def_ 24 (d := dd_is_within) rfl; ⟨_, fd, FD, He.glo_ok X G (c.t.d.fact 40 (f := .glo "is_within") rfl)⟩,
    fd_misses := let ⟨fd, FD⟩ := c.t.d.def_ 25 (d := dd_misses) rfl; ⟨_, fd, FD, He.glo_ok X G (c.t.d.fact 41 (f := .glo "misses") rfl)⟩,
    fd_next_readings := let ⟨fd, FD⟩ := c.t.d.def_ 26 (d := dd_next_readings) rfl; ⟨_, fd, FD, He.glo_ok X G (c.t.d.fact 42 (f := .glo "next_readings") rfl)⟩,
    fd__law_some := let ⟨fd, FD⟩ := c.t.d.def_ 27 (d := dd__law_some) rfl; ⟨_, fd, FD, He.glo_ok X G (c.t.d.fact 43 (f := .glo "_law_some") rfl)⟩,
    fd__law_told := let ⟨fd, FD⟩ := c.t.d.def_ 28 (d := dd__law_told) rfl; ⟨_, fd, FD, He.glo_ok X G (c.t.d.fact 44 (f := .glo "_law_told") rfl)⟩,
    fd__law_wholes := let ⟨fd, FD⟩ := c.t.d.def_ 29 (d := dd__law_wholes) rfl; ⟨_, fd, FD, He.glo_ok X G (c.t.d.fact 45 (f := .glo "_law_wholes") rfl)⟩,
    fd__law_states := let ⟨fd, FD⟩ := c.t.d.def_ 30 (d := dd__law_states) rfl; ⟨_, fd, FD, He.glo_ok X G (c.t.d.fact 46 (f := .glo "_law_states") rfl)⟩,
    fd__law_reading := let ⟨fd, FD⟩ := c.t.d.def_ 31 (d := dd__law_reading) rfl; ⟨_, fd, FD, He.glo_ok X G (c.t.d.fact 47 (f := .glo "_law_reading") rfl)⟩,
    fd__law_is_reading := let ⟨fd, FD⟩ := c.t.d.def_ 32 (d := dd__law_is_reading) rfl; ⟨_, fd, FD, He.glo_ok X G (c.t.d.fact 48 (f := .glo "_law_is_reading") rfl)⟩,
    fd__law_can_be := let ⟨fd, FD⟩ := c.t.d.def_ 33 (d := dd__law_can_be) rfl; ⟨_, fd, FD, He.glo_ok X G (c.t.d.fact 49 (f := .glo "_law_can_be") rfl)⟩,
    fd_is_reading := let ⟨fd, FD⟩ := c.t.d.def_ 34 (d := dd_is_reading) rfl; ⟨_, fd, FD, He.glo_ok X G (c.t.d.fact 50 (f := .glo "is_reading") rfl)⟩,
    fd_fits := let ⟨fd, FD⟩ := c.t.d.def_ 35 (d := dd_fits) rfl; ⟨_, fd, FD, He.glo_ok X G (c.t.d.fact 51 (f := .glo "fits") rfl)⟩,
    fd__law_odd := let ⟨fd, FD⟩ := c.t.d.def_ 36 (d := dd__law_odd) rfl; ⟨_, fd, FD, He.glo_ok X G (c.t.d.fact 52 (f := .glo "_law_odd") rfl)⟩,
    fd__law_a_kind := let ⟨fd, FD⟩ := c.t.d.def_ 37 (d := dd__law_a_kind) rfl; ⟨_, fd, FD, He.glo_ok X G (c.t.d.fact 53 (f := .glo "_law_a_kind") rfl)⟩,
    fd_told := let ⟨fd, FD⟩ := c.t.d.def_ 38 (d := dd_told) rfl; ⟨_, fd, FD, He.glo_ok X G (c.t.d.fact 54 (f := .glo "told") rfl)⟩,
    fd__law_bent := let ⟨fd, FD⟩ := c.t.d.def_ 39 (d := dd__law_bent) rfl; ⟨_, fd, FD, He.glo_ok X G (c.t.d.fact 55 (f := .glo "_law_bent") rfl)⟩,
    fd__law_book := let ⟨fd, FD⟩ := c.t.d.def_ 40 (d := dd__law_book) rfl; ⟨_, fd, FD, He.glo_ok X G (c.t.d.fact 56 (f := .glo "_law_book") rfl)⟩,
    fd__law_turned := let ⟨fd, FD⟩ := c.t.d.def_ 41 (d := dd__law_turned) rfl; ⟨_, fd, FD, He.glo_ok X G (c.t.d.fact 57 (f := .glo "_law_turned") rfl)⟩,
    fd_is_strange := let ⟨fd, FD⟩ := c.t.d.def_ 42 (d := dd_is_strange) rfl; ⟨_, fd, FD, He.glo_ok X G (c.t.d.fact 58 (f := .glo "is_strange") rfl)⟩,
    fd_sure_kind := let ⟨fd, FD⟩ := c.t.d.def_ 43 (d := dd_sure_kind) rfl; ⟨_, fd, FD, He.glo_ok X G (c.t.d.fact 59 (f := .glo "sure_kind") rfl)⟩,
    fd_sure_group := let ⟨fd, FD⟩ := c.t.d.def_ 44 (d := dd_sure_group) rfl; ⟨_, fd, FD, He.glo_ok X G (c.t.d.fact 60 (f := .glo "sure_group") rfl)⟩,
    fd__law_reading_right := let ⟨fd, FD⟩ := c.t.d.def_ 45 (d := dd__law_reading_right) rfl; ⟨_, fd, FD, He.glo_ok X G (c.t.d.fact 61 (f := .glo "_law_reading_right") rfl)⟩,
    fd_law := let ⟨fd, FD⟩ := c.t.d.def_ 46 (d := dd_law) rfl; ⟨_, fd, FD, He.glo_ok X G (c.t.d.fact 62 (f := .glo "law") rfl)⟩ }
theorem lawAt (hlaw : ∀ ns : List Int, ns.length ≤ 63 → ∃ args', F_law [.d (.list (ns.map PyData.int))] = some (.d (.bool true), args')) {w : World} {K : PySem.W.Frag} {h : Heap} {mg : Str → Option Value} {fa : Addr} (X : K.In h) (G : h.Ns mainGlobals mg) (hfa : mg ("law" : Str) = some (.ref fa)) (c : He.SaysX faH fnH [] tfH exH w h K) :
    LamX.LawAtS PySem.Challenge.rw_kindkey_k22_what_kinds_miss_and_which_fi w K L2.CX0 8 63 "script" mg fa h := by
  letI := tabsI K
  obtain ⟨fd, FD⟩ := c.t.d.def_ 46 (d := dd_law) rfl
  have e := hfa.symm.trans (He.glo_ok X G (c.t.d.fact 62 (f := .glo "law") rfl))
  cases e
  have b := FunD.bindsA (ps := ["script"]) FD fun _ _ _ _ _ _ us hl => match us, hl with | [_], _ => rfl
  refine ⟨fd, tfH.map (He.cT K), spF K 1 F_law, fun p hp => ?_, fun p hp => ?_, fun p hp => ?_, fun s v => b s [v] rfl, fun H a ns hl _ hH hS => ?_, fun base KB GB TB => okF_law (fxH KB GB c TB) FD⟩
  · obtain ⟨q, hq, rfl⟩ := List.mem_map.mp hp
    exact c.empty q hq
  · obtain ⟨q, hq, rfl⟩ := List.mem_map.mp hp
    exact c.out q hq
  · obtain ⟨q, hq, rfl⟩ := List.mem_map.mp hp
    exact PySem.W.codeHd_of_K X (c.hd q hq)
  · refine start_law (no_lists c.more) hS (tabs_nil fun p hp => ?_) (hlaw ns hl) fun _ => rfl
    obtain ⟨q, hq, rfl⟩ := List.mem_map.mp hp
    exact hH _ (List.mem_map.mpr ⟨q, hq, rfl⟩)
end K22
open PySem PySem.W PySem.Calls PyProof.Rows
theorem PySem.Challenge.cw_kindkey_k22_what_kinds_miss_and_which_fi_holds : PySem.Challenge.rw_kindkey_k22_what_kinds_miss_and_which_fi.Holds := by
  w_on; o_law
  refine HandSHeadRun.head_any (r := OpenLaw.row PySem.Challenge.rw_kindkey_k22_what_kinds_miss_and_which_fi) (q := view (OpenLaw.row PySem.Challenge.rw_kindkey_k22_what_kinds_miss_and_which_fi).prog [50]) (H := K22.hk) (ob := K22.ob) (M := 6000) (loose := K22.looseH) (d := HandSHeadRun.topDef (OpenLaw.row PySem.Challenge.rw_kindkey_k22_what_kinds_miss_and_which_fi).prog 50) (kwd := []) K22.ob_eq
    (by kernel_rfl) (fun s => by kernel_rfl) K22.runH (by kernel_rfl) (by kernel_rfl) (by kernel_rfl) (by rfl) (by first | assumption | decide +kernel) (by decide +kernel) ⟨rfl, rfl, rfl, rfl, rfl, by decide +kernel⟩ ?hw ?hc
  case hw => w_witness2
  case hc =>
    refine LamX.walk_ofTsE (l := PySem.Challenge.rw_kindkey_k22_what_kinds_miss_and_which_fi) (n := 63) (k := 8) (x := "script") (CX := fun _ => L2.CX0) rfl (by decide) (by kernel_rfl) ⟨rfl, by decide, by decide⟩ ?F (fun _ _ _ _ _ z => z)
    intro w mg fa h Y G hmg0
    obtain ⟨K, KX, c⟩ := Y
    have hmg : mg ("law" : PySem.Str) = some (.ref fa) := by
      have e : (HandSHeadRun.topDef (OpenLaw.row PySem.Challenge.rw_kindkey_k22_what_kinds_miss_and_which_fi).prog 50).name = ("law" : PySem.Str) := by kernel_rfl
      rw [← e]
      exact hmg0
    exact ⟨K, KX, K22.lawAt K22.law_true KX G hmg c⟩

