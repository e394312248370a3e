import PyProof.Rows.All
import Wide.All
import OpenK.AllK
import Wide.FinOn
import HandS.ForMost
import HandS.Evl
import HandS.Lambda
import HandS.TupAny
import HandS.IsInst
import HandS.Conv
import HandS.TupMul
import KE.KStar
import HandS.Zip
import KE.GoesMore
import KE.GoesEnum
import HandS.Defaults
import HandS.Style
import KE.KDictZip
import KE.GoesZip
import KE.KDictItemsList
import HandS.ReSub
import HandS.Dict
import KE.KRevSl
import HandS.Set
import HandS.SetFor
import PyProof.Rows.SortStr
import HandS.Strs
import HandS.DictComp
import HandS.More
import KE.SortKeyHeap
import KE.SortData
import KE.KSortKey
import HandS.Head0
import HandS.Head1
import HandS.Head2
import HandS.HeadEnd
import HandS.HeadHook1
import HandS.HeadHook2
import HandS.HeadHook3
import HandS.HeadHook4
import HandS.EndTab
import HandS.HeadWalk
import KE.KDictWalk
import PyProof.DictMoreH
import HandS.DictTup
import HandS.Deep
import HandS.TupLen
import KE.KDictDisplayH
import PySem.Challenge.RW_kindkey_k60_counts_of_readings_by_what_t
set_option Elab.async false
set_option linter.all false
set_option maxRecDepth 100000
set_option maxHeartbeats 4000000
/-! The data layer: values as data (PyData), the heap told by what is frozen (Hf) and what a frame owns. -/
namespace DL
open PySem L2
abbrev Dat := PyData
abbrev Ex := Evl.Ex

def keyD : Key → Dat
  | .inl i => .int i
  | .inr x => .str x

mutual
inductive Den (K : PySem.W.Frag) (H : Hp) : V → Dat → Prop
  | non : Den K H .non .none
  | bl (b : Bool) : Den K H (.bl b) (.bool b)
  | int (i : Int) : Den K H (.int i) (.int i)
  | str (x : Str) : Den K H (.str x) (.str x)
  | lst {a : Addr} {xs : List V} {ds : List Dat} : Rd H a (.lst xs) → Dens K H xs ds → Den K H (.ref a) (.list ds)
  | tup {a : Addr} {xs : List V} {ds : List Dat} : H a = some (.tup xs) → Dens K H xs ds → Den K H (.ref a) (.tuple ds)
  | dct {a : Addr} {kvs : List (Key × V)} {ps : List (Dat × Dat)} : Rd H a (.dK kvs) → DenK K H kvs ps → Den K H (.ref a) (.dict ps)
  | dctT {a : Addr} {kvs : List (List Key × V)} {ps : List (Dat × Dat)} : H a = some (.dT kvs) → DenT K H kvs ps → Den K H (.ref a) (.dict ps)
inductive Dens (K : PySem.W.Frag) (H : Hp) : List V → List Dat → Prop
  | nil : Dens K H [] []
  | cons {v : V} {vs : List V} {d : Dat} {ds : List Dat} : Den K H v d → Dens K H vs ds → Dens K H (v :: vs) (d :: ds)
inductive DenK (K : PySem.W.Frag) (H : Hp) : List (Key × V) → List (Dat × Dat) → Prop
  | nil : DenK K H [] []
  | cons {k : Key} {v : V} {r : List (Key × V)} {d : Dat} {ps : List (Dat × Dat)} : Den K H v d → DenK K H r ps → DenK K H ((k, v) :: r) ((keyD k, d) :: ps)
inductive DenT (K : PySem.W.Frag) (H : Hp) : List (List Key × V) → List (Dat × Dat) → Prop
  | nil : DenT K H [] []
  | cons {k : List Key} {v : V} {r : List (List Key × V)} {d : Dat} {ps : List (Dat × Dat)} : Den K H v d → DenT K H r ps → DenT K H ((k, v) :: r) ((.tuple (k.map keyD), d) :: ps)
end

section
variable {K : PySem.W.Frag} {H H' : Hp}
mutual
theorem Den.mono (e : Ex H H') : ∀ {d : Dat} {v : V}, Den K H v d → Den K H' v d
  | .none, _, h => by cases h; exact .non
  | .bool _, _, h => by cases h; exact .bl _
  | .int _, _, h => by cases h; exact .int _
  | .str _, _, h => by cases h; exact .str _
  | .list ds, _, h => by cases h with | lst s r => exact .lst (Evl.ex_rd e s) (Dens.mono e r)
  | .tuple ds, _, h => by cases h with | tup s r => exact .tup (e _ _ s) (Dens.mono e r)
  | .dict ps, _, h => by cases h with
    | dct s r => exact .dct (Evl.ex_rd e s) (DenK.mono e r)
    | dctT s r => exact .dctT (e _ _ s) (DenT.mono e r)
theorem Dens.mono (e : Ex H H') : ∀ {ds : List Dat} {vs : List V}, Dens K H vs ds → Dens K H' vs ds
  | [], _, h => by cases h; exact .nil
  | d :: ds, _, h => by cases h with | cons a b => exact .cons (Den.mono e a) (Dens.mono e b)
theorem DenK.mono (e : Ex H H') : ∀ {ps : List (Dat × Dat)} {kvs : List (Key × V)}, DenK K H kvs ps → DenK K H' kvs ps
  | [], _, h => by cases h; exact .nil
  | (_, d) :: ps, _, h => by cases h with | cons a b => exact .cons (Den.mono e a) (DenK.mono e b)
theorem DenT.mono (e : Ex H H') : ∀ {ps : List (Dat × Dat)} {kvs : List (List Key × V)}, DenT K H kvs ps → DenT K H' kvs ps
  | [], _, h => by cases h; exact .nil
  | (_, d) :: ps, _, h => by cases h with | cons a b => exact .cons (Den.mono e a) (DenT.mono e b)
end
theorem Dens.length : ∀ {ds : List Dat} {vs : List V}, Dens K H vs ds → vs.length = ds.length
  | _, _, .nil => rfl
  | _, _, .cons _ t => congrArg (· + 1) (Dens.length t)
theorem Dens.get : ∀ {ds : List Dat} {vs : List V} {i : Nat} {v : V}, Dens K H vs ds → vs[i]? = some v → ∃ d, ds[i]? = some d ∧ Den K H v d
  | _, _, _, _, .nil, e => by simp at e
  | _, _, 0, _, .cons r _, e => by simp at e; subst e; exact ⟨_, rfl, r⟩
  | _, _, i + 1, v, .cons _ t, e => by
    obtain ⟨u, h1, h2⟩ := Dens.get (i := i) (v := v) t (by simpa using e)
    exact ⟨u, by simpa using h1, h2⟩
theorem Dens.getD : ∀ {ds : List Dat} {vs : List V} {i : Nat} {d : Dat}, Dens K H vs ds → ds[i]? = some d → ∃ v, vs[i]? = some v ∧ Den K H v d
  | _, _, _, _, .nil, e => by simp at e
  | _, _, 0, _, .cons r _, e => by simp at e; subst e; exact ⟨_, rfl, r⟩
  | _, _, i + 1, v, .cons _ t, e => by
    obtain ⟨u, h1, h2⟩ := Dens.getD (i := i) (d := v) t (by simpa using e)
    exact ⟨u, by simpa using h1, h2⟩
theorem Dens.append : ∀ {ds es : List Dat} {vs us : List V}, Dens K H vs ds → Dens K H us es → Dens K H (vs ++ us) (ds ++ es)
  | _, _, _, _, .nil, s => s
  | _, _, _, _, .cons r t, s => .cons r (Dens.append t s)
theorem Dens.take : ∀ {ds : List Dat} {vs : List V} (n : Nat), Dens K H vs ds → Dens K H (vs.take n) (ds.take n)
  | _, _, 0, _ => .nil
  | _, _, _ + 1, .nil => .nil
  | _, _, n + 1, .cons r t => .cons r (Dens.take n t)
theorem Dens.drop : ∀ {ds : List Dat} {vs : List V} (n : Nat), Dens K H vs ds → Dens K H (vs.drop n) (ds.drop n)
  | _, _, 0, r => r
  | _, _, _ + 1, .nil => .nil
  | _, _, n + 1, .cons _ t => Dens.drop n t
theorem Dens.set {x : V} {u : Dat} (r : Den K H x u) : ∀ {ds : List Dat} {vs : List V} (i : Nat), Dens K H vs ds → Dens K H (vs.set i x) (ds.set i u)
  | _, _, _, .nil => .nil
  | _, _, 0, .cons _ t => .cons r t
  | _, _, i + 1, .cons q t => .cons q (Dens.set r i t)
theorem Dens.dropLast : ∀ {ds : List Dat} {vs : List V}, Dens K H vs ds → Dens K H vs.dropLast ds.dropLast := fun {ds vs} r => by
  rw [List.dropLast_eq_take, List.dropLast_eq_take, r.length]
  exact r.take _
theorem Dens.reverse : ∀ {ds : List Dat} {vs : List V}, Dens K H vs ds → Dens K H vs.reverse ds.reverse
  | _, _, .nil => .nil
  | _, _, .cons r t => by
    rw [List.reverse_cons, List.reverse_cons]
    exact (Dens.reverse t).append (.cons r .nil)
theorem Dens.ints : ∀ {ns : List Int} {vs : List V}, Dens K H vs (ns.map PyData.int) → vs = ns.map V.int
  | [], _, h => by cases h; rfl
  | n :: ns, _, h => by
    cases h with
    | cons a b => cases a; rw [List.map_cons, ← Dens.ints b]
theorem Dens.bools : ∀ {ns : List Bool} {vs : List V}, Dens K H vs (ns.map PyData.bool) → vs = ns.map V.bl
  | [], _, h => by cases h; rfl
  | n :: ns, _, h => by
    cases h with
    | cons a b => cases a; rw [List.map_cons, ← Dens.bools b]
theorem Dens.strs : ∀ {ns : List Str} {vs : List V}, Dens K H vs (ns.map PyData.str) → vs = ns.map V.str
  | [], _, h => by cases h; rfl
  | n :: ns, _, h => by
    cases h with
    | cons a b => cases a; rw [List.map_cons, ← Dens.strs b]
/-- the value of flat data -/
def scV : Dat → Option V
  | .none => some .non
  | .bool b => some (.bl b)
  | .int i => some (.int i)
  | .str x => some (.str x)
  | _ => Option.none
theorem scV_den {d : Dat} {v : V} (h : scV d = some v) : Den K H v d := by
  cases d <;> simp only [scV, Option.some.injEq, reduceCtorEq] at h <;> subst h
  · exact .non
  · exact .bl _
  · exact .int _
  · exact .str _
theorem scV_of {d : Dat} {v w : V} (h : scV d = some v) (q : Den K H w d) : w = v := by
  cases d <;> simp only [scV, Option.some.injEq, reduceCtorEq] at h <;> subst h <;> cases q <;> rfl
end

/-! ### what a frame holds -/
inductive Own where
  | lst (l : List Dat)
  | dct (l : List (Dat × Dat))
  | tdct (l : List (List Key × Dat))
  | ldct (l : List (List Key × List Dat))
def datT (l : List (List Key × Dat)) : List (Dat × Dat) := l.map fun p => (.tuple (p.1.map keyD), p.2)
def datL (l : List (List Key × List Dat)) : List (List Key × Dat) := l.map fun p => (p.1, .list p.2)
inductive Slot where
  | no
  | d (x : Dat)
  | own (o : Own)
  | bor (i : Nat)
  | fn (a : Addr)
  | z (ds : List Dat)
abbrev Env := List Slot
abbrev M := Env → Option (Slot × Env)
def Own.dat : Own → Dat
  | .lst l => .list l
  | .dct l => .dict l
  | .tdct l => .dict (datT l)
  | .ldct l => .dict (datT (datL l))
/-- the lists that a dict holds -/
def ListsAt (K : PySem.W.Frag) (Hf H : Hp) : List (List Key × Addr) → List (List Key × List Dat) → Prop
  | [], [] => True
  | p :: r, q :: s => p.1 = q.1 ∧ Hf p.2 = none ∧ (∃ xs, H p.2 = some (.lst xs) ∧ Dens K Hf xs q.2) ∧ ListsAt K Hf H r s
  | _, _ => False

def OwnAt (K : PySem.W.Frag) (Hf H : Hp) (a : Addr) : Own → List Addr → Prop
  | .lst l, fp => fp = [a] ∧ Hf a = none ∧ ∃ xs, H a = some (.lst xs) ∧ Dens K Hf xs l
  | .dct l, fp => fp = [a] ∧ Hf a = none ∧ ∃ kvs, H a = some (.dK kvs) ∧ DenK K Hf kvs l
  | .tdct l, fp => fp = [a] ∧ Hf a = none ∧ ∃ kvs, H a = some (.dT kvs) ∧ DenT K Hf kvs (datT l)
  | .ldct l, fp => ∃ bs : List (List Key × Addr), fp = a :: bs.map (·.2) ∧ fp.Nodup ∧ Hf a = none ∧ H a = some (.dT (bs.map fun p => (p.1, .ref p.2))) ∧ ListsAt K Hf H bs l
/-- a tuple whose object is known: it has no dict of its own -/
def ZAt (K : PySem.W.Frag) (Hf : Hp) (v : V) (ds : List Dat) : Prop := ∃ a o xs, v = .ref a ∧ Hf a = some (.frz o (.tup xs)) ∧ o.cls = .type "tuple" ∧ o.dict = none ∧ Dens K Hf xs ds
theorem ZAt.mono {K : PySem.W.Frag} {Hf Hf' : Hp} {v : V} {ds : List Dat} (h : ZAt K Hf v ds) (e : Ex Hf Hf') : ZAt K Hf' v ds := by
  obtain ⟨a, o, xs, h1, h2, h3, h4, h5⟩ := h
  exact ⟨a, o, xs, h1, e _ _ h2, h3, h4, h5.mono e⟩
def SlotOk (K : PySem.W.Frag) (Hf H : Hp) (ov : Option (Option V)) : Slot → List Addr → Prop
  | .no, fp => fp = []
  | .d x, fp => fp = [] ∧ ∃ v, ov = some (some v) ∧ Den K Hf v x
  | .own o, fp => ∃ a, ov = some (some (.ref a)) ∧ OwnAt K Hf H a o fp
  | .bor _, _ => False
  | .fn a, fp => fp = [] ∧ ov = some (some (.ref a))
  | .z ds, fp => fp = [] ∧ ∃ v, ov = some (some v) ∧ ZAt K Hf v ds
structure Pend where
  v : V
  s : Slot
  fp : List Addr
def PendOk (K : PySem.W.Frag) (Hf H : Hp) (σ : St) (v : V) : Slot → List Addr → Prop
  | .no, _ => False
  | .d x, fp => fp = [] ∧ Den K Hf v x
  | .own o, fp => ∃ a, v = .ref a ∧ OwnAt K Hf H a o fp
  | .bor i, fp => fp = [] ∧ σ[i]? = some (some v)
  | .fn a, fp => fp = [] ∧ v = .ref a
  | .z ds, fp => fp = [] ∧ ZAt K Hf v ds
/-- the tables of code objects that the law's lambdas ask for -/
class TabsC where
  tabs : List (Addr × Str)
def NT (o : HO) : Prop := ∀ ps, o ≠ .tbl ps
structure Base where
  Hf : Hp
  H : Hp
  O : Addr → Prop
/-- nothing but a table stands at a in the base -/
def NB (B : Base) (a : Addr) : Prop := ∀ o, B.H a = some o → ¬ NT o
structure ReachF [TabsC] (K : PySem.W.Frag) (B : Base) (Hf H : Hp) (σ : St) (Γ : Env) (f : Nat → List Addr) (ps : List Pend) : Prop where
  len : σ.length = Γ.length
  sub : Ex Hf H
  slot : ∀ i g, Γ[i]? = some g → SlotOk K Hf H σ[i]? g (f i)
  out : ∀ i, Γ[i]? = none → f i = []
  disj : ∀ i j a, a ∈ f i → a ∈ f j → i = j
  pend : ∀ p ∈ ps, PendOk K Hf H σ p.v p.s p.fp
  pdis : ps.Pairwise fun p q => ∀ a, a ∈ p.fp → a ∉ q.fp
  psl : ∀ p ∈ ps, ∀ a ∈ p.fp, ∀ i, a ∉ f i
  ex : Ex B.Hf Hf
  keep : ∀ a o, B.H a = some o → ¬ B.O a → NT o → H a = some o
  dom : ∀ a o, B.H a = some o → NT o → ∃ u, H a = some u ∧ NT u
  new : ∀ a, Hf a ≠ none → B.Hf a ≠ none ∨ NB B a ∨ B.O a ∨ ∃ xs, Hf a = some (.tup xs)
  own : ∀ i a, a ∈ f i → NB B a ∨ B.O a
  pown : ∀ p ∈ ps, ∀ a ∈ p.fp, NB B a ∨ B.O a
  tab : (∀ a o, Hf a = some o → NT o) ∧ LamX.Tabs TabsC.tabs H
def Reach [TabsC] (K : PySem.W.Frag) (B : Base) (Hf H : Hp) (σ : St) (Γ : Env) (ps : List Pend) : Prop := ∃ f, ReachF K B Hf H σ Γ f ps

section
variable [TabsC] {K : PySem.W.Frag} {B : Base} {Hf H Hf' H' : Hp} {σ σ' : St} {Γ Γ' : Env} {f : Nat → List Addr} {ps : List Pend} {a : Addr} {o : Own} {fp : List Addr}
omit [TabsC] in
theorem ListsAt.off {K : PySem.W.Frag} {Hf H : Hp} : ∀ {bs : List (List Key × Addr)} {l : List (List Key × List Dat)}, ListsAt K Hf H bs l → ∀ b ∈ bs.map (·.2), Hf b = none ∧ ∃ xs, H b = some (.lst xs)
  | [], _, _, b, hb => by simp at hb
  | p :: r, [], h, _, _ => h.elim
  | p :: r, q :: s, h, b, hb => by
    obtain ⟨_, h2, ⟨xs, h3, _⟩, h4⟩ := h
    rcases List.mem_cons.mp hb with rfl | hb
    · exact ⟨h2, xs, h3⟩
    · exact ListsAt.off h4 b hb
omit [TabsC] in
theorem ListsAt.stay {K : PySem.W.Frag} {Hf H Hf' H' : Hp} (e : Ex Hf Hf') : ∀ {bs : List (List Key × Addr)} {l : List (List Key × List Dat)}, ListsAt K Hf H bs l → (∀ b ∈ bs.map (·.2), H' b = H b) → (∀ b ∈ bs.map (·.2), Hf' b = none) → ListsAt K Hf' H' bs l
  | [], [], _, _, _ => trivial
  | [], _ :: _, h, _, _ => h.elim
  | p :: r, [], h, _, _ => h.elim
  | p :: r, q :: s, h, k, n => by
    obtain ⟨h1, h2, ⟨xs, h3, h5⟩, h4⟩ := h
    exact ⟨h1, n _ (by simp), ⟨xs, (k _ (by simp)).trans h3, h5.mono e⟩, ListsAt.stay e h4 (fun b hb => k b (List.mem_cons_of_mem _ hb)) fun b hb => n b (List.mem_cons_of_mem _ hb)⟩
omit [TabsC] in
theorem ListsAt.den {K : PySem.W.Frag} {Hf H H2 : Hp} (e : Ex Hf H2) : ∀ {bs : List (List Key × Addr)} {l : List (List Key × List Dat)}, ListsAt K Hf H bs l → (∀ b ∈ bs.map (·.2), H2 b = H b) → DenT K H2 (bs.map fun p => (p.1, V.ref p.2)) (datT (datL l))
  | [], [], _, _ => .nil
  | [], _ :: _, h, _ => h.elim
  | p :: r, [], h, _ => h.elim
  | p :: r, q :: s, h, k => by
    obtain ⟨h1, h2, ⟨xs, h3, h5⟩, h4⟩ := h
    have ih := ListsAt.den e h4 fun b hb => k b (List.mem_cons_of_mem _ hb)
    show DenT K H2 ((p.1, V.ref p.2) :: _) ((.tuple (q.1.map keyD), .list q.2) :: _)
    rw [← h1]
    exact .cons (.lst (Rd.of ((k _ (by simp)).trans h3)) (h5.mono e)) ih
theorem OwnAt.off (h : OwnAt K Hf H a o fp) : ∀ b ∈ fp, Hf b = none ∧ H b ≠ none := by
  intro b hb
  cases o with
  | lst l =>
    obtain ⟨e, h1, xs, h2, _⟩ := h
    subst e
    obtain rfl : b = a := by simpa using hb
    exact ⟨h1, fun z => by rw [h2] at z; cases z⟩
  | dct l =>
    obtain ⟨e, h1, xs, h2, _⟩ := h
    subst e
    obtain rfl : b = a := by simpa using hb
    exact ⟨h1, fun z => by rw [h2] at z; cases z⟩
  | tdct l =>
    obtain ⟨e, h1, xs, h2, _⟩ := h
    subst e
    obtain rfl : b = a := by simpa using hb
    exact ⟨h1, fun z => by rw [h2] at z; cases z⟩
  | ldct l =>
    obtain ⟨bs, e, _, h1, h2, h3⟩ := h
    subst e
    rcases List.mem_cons.mp hb with rfl | hb
    · exact ⟨h1, fun z => by rw [h2] at z; cases z⟩
    · obtain ⟨q1, xs, q2⟩ := h3.off b hb
      exact ⟨q1, fun z => by rw [q2] at z; cases z⟩
omit [TabsC] in
theorem OwnAt.nt (h : OwnAt K Hf H a o fp) : ∀ b ∈ fp, ∀ u, H b = some u → NT u := by
  intro b hb u hu
  cases o with
  | lst l =>
    obtain ⟨e, h1, xs, h2, _⟩ := h
    subst e
    obtain rfl : b = a := by simpa using hb
    rw [h2] at hu
    cases hu
    exact fun ps z => by cases z
  | dct l =>
    obtain ⟨e, h1, xs, h2, _⟩ := h
    subst e
    obtain rfl : b = a := by simpa using hb
    rw [h2] at hu
    cases hu
    exact fun ps z => by cases z
  | tdct l =>
    obtain ⟨e, h1, xs, h2, _⟩ := h
    subst e
    obtain rfl : b = a := by simpa using hb
    rw [h2] at hu
    cases hu
    exact fun ps z => by cases z
  | ldct l =>
    obtain ⟨bs, e, _, h1, h2, h3⟩ := h
    subst e
    rcases List.mem_cons.mp hb with rfl | hb
    · rw [h2] at hu
      cases hu
      exact fun ps z => by cases z
    · obtain ⟨q1, xs, q2⟩ := h3.off b hb
      rw [q2] at hu
      cases hu
      exact fun ps z => by cases z
omit [TabsC] in
/-- what is owned is no tuple -/
theorem OwnAt.ntup (h : OwnAt K Hf H a o fp) : ∀ b ∈ fp, ∀ xs, H b ≠ some (.tup xs) := by
  intro b hb xs hu
  cases o with
  | lst l =>
    obtain ⟨e, h1, ys, h2, _⟩ := h
    subst e
    obtain rfl : b = a := by simpa using hb
    rw [h2] at hu
    cases hu
  | dct l =>
    obtain ⟨e, h1, ys, h2, _⟩ := h
    subst e
    obtain rfl : b = a := by simpa using hb
    rw [h2] at hu
    cases hu
  | tdct l =>
    obtain ⟨e, h1, ys, h2, _⟩ := h
    subst e
    obtain rfl : b = a := by simpa using hb
    rw [h2] at hu
    cases hu
  | ldct l =>
    obtain ⟨bs, e, _, h1, h2, h3⟩ := h
    subst e
    rcases List.mem_cons.mp hb with rfl | hb
    · rw [h2] at hu; cases hu
    · obtain ⟨q1, ys, q2⟩ := h3.off b hb
      rw [q2] at hu
      cases hu
theorem OwnAt.stay (h : OwnAt K Hf H a o fp) (k : ∀ b ∈ fp, H' b = H b) (e : Ex Hf Hf') (n : ∀ b ∈ fp, Hf' b = none) : OwnAt K Hf' H' a o fp := by
  cases o with
  | lst l =>
    obtain ⟨rfl, h1, xs, h2, h3⟩ := h
    exact ⟨rfl, n a (by simp), xs, (k a (by simp)).trans h2, h3.mono e⟩
  | dct l =>
    obtain ⟨rfl, h1, xs, h2, h3⟩ := h
    exact ⟨rfl, n a (by simp), xs, (k a (by simp)).trans h2, h3.mono e⟩
  | tdct l =>
    obtain ⟨rfl, h1, xs, h2, h3⟩ := h
    exact ⟨rfl, n a (by simp), xs, (k a (by simp)).trans h2, h3.mono e⟩
  | ldct l =>
    obtain ⟨bs, rfl, h0, h1, h2, h3⟩ := h
    exact ⟨bs, rfl, h0, n a (by simp), (k a (by simp)).trans h2, h3.stay e (fun b hb => k b (List.mem_cons_of_mem _ hb)) fun b hb => n b (List.mem_cons_of_mem _ hb)⟩
theorem OwnAt.den (h : OwnAt K Hf H a o fp) (e : Ex Hf H) : Den K H (.ref a) o.dat := by
  cases o with
  | lst l => obtain ⟨_, _, xs, h2, h3⟩ := h; exact .lst (Rd.of h2) (h3.mono e)
  | dct l => obtain ⟨_, _, xs, h2, h3⟩ := h; exact .dct (Rd.of h2) (h3.mono e)
  | tdct l => obtain ⟨_, _, xs, h2, h3⟩ := h; exact .dctT h2 (h3.mono e)
  | ldct l => obtain ⟨bs, rfl, h0, h1, h2, h3⟩ := h; exact .dctT h2 (h3.den e fun _ _ => rfl)
theorem OwnAt.mem (h : OwnAt K Hf H a o fp) : a ∈ fp := by
  cases o with
  | lst l => obtain ⟨rfl, _⟩ := h; simp
  | dct l => obtain ⟨rfl, _⟩ := h; simp
  | tdct l => obtain ⟨rfl, _⟩ := h; simp
  | ldct l => obtain ⟨bs, rfl, _⟩ := h; simp
theorem SlotOk.stay {ov : Option (Option V)} {g : Slot} (h : SlotOk K Hf H ov g fp) (k : ∀ b ∈ fp, H' b = H b) (e : Ex Hf Hf') (n : ∀ b ∈ fp, Hf' b = none) : SlotOk K Hf' H' ov g fp := by
  cases g with
  | no => exact h
  | d x => obtain ⟨h1, v, h2, h3⟩ := h; exact ⟨h1, v, h2, h3.mono e⟩
  | own o => obtain ⟨a, h1, h2⟩ := h; exact ⟨a, h1, h2.stay k e n⟩
  | bor i => exact h
  | fn a => exact h
  | z ds => obtain ⟨h1, v, h2, h3⟩ := h; exact ⟨h1, v, h2, h3.mono e⟩
theorem PendOk.stay {v : V} {g : Slot} (h : PendOk K Hf H σ v g fp) (k : ∀ b ∈ fp, H' b = H b) (e : Ex Hf Hf') (n : ∀ b ∈ fp, Hf' b = none) : PendOk K Hf' H' σ v g fp := by
  cases g with
  | no => exact h
  | d x => obtain ⟨h1, h3⟩ := h; exact ⟨h1, h3.mono e⟩
  | own o => obtain ⟨a, h1, h2⟩ := h; exact ⟨a, h1, h2.stay k e n⟩
  | bor i => exact h
  | fn a => exact h
  | z ds => obtain ⟨h1, h3⟩ := h; exact ⟨h1, h3.mono e⟩
theorem SlotOk.off {ov : Option (Option V)} {g : Slot} (h : SlotOk K Hf H ov g fp) : ∀ b ∈ fp, Hf b = none ∧ H b ≠ none := by
  intro b hb
  cases g with
  | no => obtain rfl : fp = [] := h; simp at hb
  | d x => obtain ⟨rfl, _⟩ := h; simp at hb
  | own o => obtain ⟨a, h1, h2⟩ := h; exact h2.off b hb
  | bor i => exact h.elim
  | fn a => obtain ⟨rfl, _⟩ := h; simp at hb
  | z ds => obtain ⟨rfl, _⟩ := h; simp at hb
theorem PendOk.off {v : V} {g : Slot} (h : PendOk K Hf H σ v g fp) : ∀ b ∈ fp, Hf b = none ∧ H b ≠ none := by
  intro b hb
  cases g with
  | no => exact h.elim
  | d x => obtain ⟨rfl, _⟩ := h; simp at hb
  | own o => obtain ⟨a, h1, h2⟩ := h; exact h2.off b hb
  | bor i => obtain ⟨rfl, _⟩ := h; simp at hb
  | fn a => obtain ⟨rfl, _⟩ := h; simp at hb
  | z ds => obtain ⟨rfl, _⟩ := h; simp at hb
omit [TabsC] in
theorem SlotOk.nt {ov : Option (Option V)} {g : Slot} (h : SlotOk K Hf H ov g fp) : ∀ b ∈ fp, ∀ u, H b = some u → NT u := by
  intro b hb
  cases g with
  | no => obtain rfl : fp = [] := h; simp at hb
  | d x => obtain ⟨rfl, _⟩ := h; simp at hb
  | own o => obtain ⟨a, h1, h2⟩ := h; exact h2.nt b hb
  | bor i => exact h.elim
  | fn a => obtain ⟨rfl, _⟩ := h; simp at hb
  | z ds => obtain ⟨rfl, _⟩ := h; simp at hb
omit [TabsC] in
theorem PendOk.nt {v : V} {g : Slot} (h : PendOk K Hf H σ v g fp) : ∀ b ∈ fp, ∀ u, H b = some u → NT u := by
  intro b hb
  cases g with
  | no => exact h.elim
  | d x => obtain ⟨rfl, _⟩ := h; simp at hb
  | own o => obtain ⟨a, h1, h2⟩ := h; exact h2.nt b hb
  | bor i => obtain ⟨rfl, _⟩ := h; simp at hb
  | fn a => obtain ⟨rfl, _⟩ := h; simp at hb
  | z ds => obtain ⟨rfl, _⟩ := h; simp at hb
omit [TabsC] in
theorem SlotOk.ntup {ov : Option (Option V)} {g : Slot} (h : SlotOk K Hf H ov g fp) : ∀ b ∈ fp, ∀ xs, H b ≠ some (.tup xs) := by
  intro b hb
  cases g with
  | no => obtain rfl : fp = [] := h; simp at hb
  | d x => obtain ⟨rfl, _⟩ := h; simp at hb
  | own o => obtain ⟨a, h1, h2⟩ := h; exact h2.ntup b hb
  | bor i => exact h.elim
  | fn a => obtain ⟨rfl, _⟩ := h; simp at hb
  | z ds => obtain ⟨rfl, _⟩ := h; simp at hb
omit [TabsC] in
theorem PendOk.ntup {v : V} {g : Slot} (h : PendOk K Hf H σ v g fp) : ∀ b ∈ fp, ∀ xs, H b ≠ some (.tup xs) := by
  intro b hb
  cases g with
  | no => exact h.elim
  | d x => obtain ⟨rfl, _⟩ := h; simp at hb
  | own o => obtain ⟨a, h1, h2⟩ := h; exact h2.ntup b hb
  | bor i => obtain ⟨rfl, _⟩ := h; simp at hb
  | fn a => obtain ⟨rfl, _⟩ := h; simp at hb
  | z ds => obtain ⟨rfl, _⟩ := h; simp at hb
theorem ReachF.off (R : ReachF K B Hf H σ Γ f ps) (i : Nat) : ∀ b ∈ f i, Hf b = none ∧ H b ≠ none := by
  intro b hb
  cases e : Γ[i]? with
  | none => rw [R.out i e] at hb; simp at hb
  | some g => exact (R.slot i g e).off b hb
theorem ReachF.poff (R : ReachF K B Hf H σ Γ f ps) {p : Pend} (hp : p ∈ ps) : ∀ b ∈ p.fp, Hf b = none ∧ H b ≠ none := (R.pend p hp).off

theorem ReachF.ntup (R : ReachF K B Hf H σ Γ f ps) (i : Nat) : ∀ b ∈ f i, ∀ xs, H b ≠ some (.tup xs) := by
  intro b hb
  cases e : Γ[i]? with
  | none => rw [R.out i e] at hb; simp at hb
  | some g => exact (R.slot i g e).ntup b hb
theorem ReachF.pntup (R : ReachF K B Hf H σ Γ f ps) {p : Pend} (hp : p ∈ ps) : ∀ b ∈ p.fp, ∀ xs, H b ≠ some (.tup xs) := (R.pend p hp).ntup
theorem ReachF.pnt (R : ReachF K B Hf H σ Γ f ps) {p : Pend} (hp : p ∈ ps) : ∀ b ∈ p.fp, ∀ u, H b = some u → NT u := (R.pend p hp).nt
theorem ReachF.nt (R : ReachF K B Hf H σ Γ f ps) (i : Nat) : ∀ b ∈ f i, ∀ u, H b = some u → NT u := by
  intro b hb
  cases e : Γ[i]? with
  | none => rw [R.out i e] at hb; simp at hb
  | some g => exact (R.slot i g e).nt b hb
omit [TabsC] in
theorem tabs_upd {T : List (Addr × Str)} {u : HO} (t : LamX.Tabs T H) (h : ∀ o, H a = some o → NT o ∧ ∀ c q, o ≠ LamX.CodeO c q) : LamX.Tabs T (upd H a u) := fun p hp => by
  obtain ⟨qs, h1, h2, h3⟩ := t p hp
  refine ⟨qs, ?_, h2, fun pos cv hc => ?_⟩
  · rw [upd_ne fun e => (h _ (by rw [← e]; exact h1)).1 qs rfl]; exact h1
  · obtain ⟨c, e1, e2⟩ := h3 pos cv hc
    exact ⟨c, e1, by rw [upd_ne fun e => (h _ (by rw [← e]; exact e2)).2 c p.2 rfl]; exact e2⟩
/-- the heap grows at fresh places, what is new may be frozen -/
theorem ReachF.grow (R : ReachF K B Hf H σ Γ f ps) (e : Ex H H') (e2 : Ex Hf Hf') (e3 : Ex Hf' H') (n : ∀ a, Hf' a ≠ none → Hf a ≠ none ∨ H a = none) (t : ∀ a o, Hf' a = some o → Hf a = some o ∨ NT o) : ReachF K B Hf' H' σ Γ f ps := by
  have nn : ∀ b, Hf b = none → H b ≠ none → Hf' b = none := fun b h1 h2 => by
    by_cases q : Hf' b = none
    · exact q
    · rcases n b q with z | z
      · exact absurd h1 z
      · exact absurd z h2
  have kk : ∀ b, H b ≠ none → H' b = H b := fun b h2 => by
    cases q : H b with
    | none => exact absurd q h2
    | some o => exact e b o q
  refine ⟨R.len, e3, fun i g hi => (R.slot i g hi).stay (fun b hb => kk b (R.off i b hb).2) e2 (fun b hb => nn b (R.off i b hb).1 (R.off i b hb).2), R.out, R.disj,
    fun p hp => (R.pend p hp).stay (fun b hb => kk b (R.poff hp b hb).2) e2 (fun b hb => nn b (R.poff hp b hb).1 (R.poff hp b hb).2), R.pdis, R.psl, R.ex.trans e2,
    fun a o h1 h2 h3 => e a o (R.keep a o h1 h2 h3), fun a o h1 h2 => ?_, fun a h1 => ?_, R.own, R.pown, fun a o h => (t a o h).elim (R.tab.1 a o) id, R.tab.2.ext e⟩
  · obtain ⟨u, h4, h5⟩ := R.dom a o h1 h2
    exact ⟨u, e a u h4, h5⟩
  · rcases n a h1 with z | z
    · exact (R.new a z).imp id fun q => q.imp id fun q => q.imp id fun ⟨xs, h⟩ => ⟨xs, e2 a _ h⟩
    · exact .inr (.inl fun o h2 h3 => by obtain ⟨u, h4, _⟩ := R.dom a o h2 h3; rw [z] at h4; cases h4)
theorem ex_upd {o : HO} {p : Addr} (h : H p = none) : Ex H (upd H p o) := Evl.Ex.new h
theorem ReachF.alloc {o : HO} {p : Addr} (R : ReachF K B Hf H σ Γ f ps) (h : H p = none) : ReachF K B Hf (upd H p o) σ Γ f ps :=
  R.grow (ex_upd h) (Evl.Ex.refl _) (R.sub.trans (ex_upd h)) (fun a q => .inl q) fun a o h => .inl h
theorem ReachF.allocF {o : HO} {p : Addr} (R : ReachF K B Hf H σ Γ f ps) (h : H p = none) (hn : NT o) : ReachF K B (upd Hf p o) (upd H p o) σ Γ f ps := by
  have hf : Hf p = none := Evl.fresh_back R.sub h
  refine R.grow (ex_upd h) (ex_upd hf) (fun a u q => ?_) (fun a q => ?_) fun a u q => ?_
  · by_cases e : a = p
    · subst e; rw [upd_same] at q ⊢; exact q
    · rw [upd_ne e] at q ⊢; exact R.sub a u q
  · by_cases e : a = p
    · subst e; exact .inr h
    · rw [upd_ne e] at q; exact .inl q
  · by_cases e : a = p
    · subst e; rw [upd_same] at q; cases q; exact .inr hn
    · rw [upd_ne e] at q; exact .inl q
theorem ReachF.fresh {p : Addr} (R : ReachF K B Hf H σ Γ f ps) (h : H p = none) : (∀ i, p ∉ f i) ∧ (∀ q ∈ ps, p ∉ q.fp) ∧ NB B p := by
  refine ⟨fun i hb => absurd h (R.off i p hb).2, fun q hq hb => absurd h (R.poff hq p hb).2, fun o h2 h3 => by obtain ⟨u, h4, _⟩ := R.dom p o h2 h3; rw [h] at h4; cases h4⟩
/-- a value that is held for a while -/
theorem ReachF.push {v : V} {s : Slot} (R : ReachF K B Hf H σ Γ f ps) (ok : PendOk K Hf H σ v s fp) (h1 : ∀ a ∈ fp, (∀ i, a ∉ f i) ∧ ∀ q ∈ ps, a ∉ q.fp) (h2 : ∀ a ∈ fp, NB B a ∨ B.O a) :
    ReachF K B Hf H σ Γ f (⟨v, s, fp⟩ :: ps) := by
  refine ⟨R.len, R.sub, R.slot, R.out, R.disj, fun p hp => ?_, List.pairwise_cons.mpr ⟨fun q hq a ha => (h1 a ha).2 q hq, R.pdis⟩, fun p hp => ?_, R.ex, R.keep, R.dom, R.new, R.own, fun p hp => ?_, R.tab⟩
  · rcases List.mem_cons.mp hp with rfl | hp
    · exact ok
    · exact R.pend p hp
  · rcases List.mem_cons.mp hp with rfl | hp
    · exact fun a ha => (h1 a ha).1
    · exact R.psl p hp
  · rcases List.mem_cons.mp hp with rfl | hp
    · exact h2
    · exact R.pown p hp
theorem ReachF.pushD {v : V} {x : Dat} (R : ReachF K B Hf H σ Γ f ps) (h : Den K Hf v x) : ReachF K B Hf H σ Γ f (⟨v, .d x, []⟩ :: ps) :=
  R.push ⟨rfl, h⟩ (by simp) (by simp)
theorem ReachF.pop {p : Pend} (R : ReachF K B Hf H σ Γ f (p :: ps)) : ReachF K B Hf H σ Γ f ps :=
  ⟨R.len, R.sub, R.slot, R.out, R.disj, fun q hq => R.pend q (List.mem_cons_of_mem _ hq), (List.pairwise_cons.mp R.pdis).2, fun q hq => R.psl q (List.mem_cons_of_mem _ hq), R.ex, R.keep, R.dom, R.new, R.own, fun q hq => R.pown q (List.mem_cons_of_mem _ hq), R.tab⟩
/-- a new list, a new tuple -/
theorem ReachF.newL {p : Addr} {xs : List V} {ds : List Dat} (R : ReachF K B Hf H σ Γ f ps) (h : H p = none) (d : Dens K Hf xs ds) : ReachF K B Hf (upd H p (.lst xs)) σ Γ f (⟨.ref p, .own (.lst ds), [p]⟩ :: ps) := by
  obtain ⟨f1, f2, f3⟩ := R.fresh h
  refine (R.alloc h).push ⟨p, rfl, rfl, Evl.fresh_back R.sub h, xs, upd_same, d⟩ (fun a ha => ?_) (fun a ha => ?_)
  · obtain rfl : a = p := by simpa using ha
    exact ⟨f1, f2⟩
  · obtain rfl : a = p := by simpa using ha
    exact .inl f3
theorem ReachF.newD {p : Addr} {kvs : List (Key × V)} {ds : List (Dat × Dat)} (R : ReachF K B Hf H σ Γ f ps) (h : H p = none) (d : DenK K Hf kvs ds) : ReachF K B Hf (upd H p (.dK kvs)) σ Γ f (⟨.ref p, .own (.dct ds), [p]⟩ :: ps) := by
  obtain ⟨f1, f2, f3⟩ := R.fresh h
  refine (R.alloc h).push ⟨p, rfl, rfl, Evl.fresh_back R.sub h, kvs, upd_same, d⟩ (fun a ha => ?_) (fun a ha => ?_)
  · obtain rfl : a = p := by simpa using ha
    exact ⟨f1, f2⟩
  · obtain rfl : a = p := by simpa using ha
    exact .inl f3
theorem ReachF.newT {p : Addr} {xs : List V} {ds : List Dat} (R : ReachF K B Hf H σ Γ f ps) (h : H p = none) (d : Dens K Hf xs ds) : ReachF K B (upd Hf p (.tup xs)) (upd H p (.tup xs)) σ Γ f (⟨.ref p, .d (.tuple ds), []⟩ :: ps) :=
  (R.allocF h fun _ z => by cases z).pushD (.tup upd_same (d.mono (ex_upd (Evl.fresh_back R.sub h))))

/-! ### freezing -/
/-- the frozen heap with the objects at fp -/
def frz (Hf H : Hp) (fp : List Addr) : Hp := fun b => if b ∈ fp then H b else Hf b
theorem frz_in (h : a ∈ fp) : frz Hf H fp a = H a := by unfold frz; rw [if_pos h]
theorem frz_out (h : a ∉ fp) : frz Hf H fp a = Hf a := by unfold frz; rw [if_neg h]
theorem ex_frz (n : ∀ b ∈ fp, Hf b = none) : Ex Hf (frz Hf H fp) := fun b u q => by
  by_cases e : b ∈ fp
  · rw [n b e] at q; cases q
  · rw [frz_out e]; exact q
theorem frz_sub (s : Ex Hf H) : Ex (frz Hf H fp) H := fun b u q => by
  by_cases e : b ∈ fp
  · rw [frz_in e] at q; exact q
  · rw [frz_out e] at q; exact s b u q
theorem OwnAt.frz (h : OwnAt K Hf H a o fp) : Den K (frz Hf H fp) (.ref a) o.dat := by
  have e : Ex Hf (DL.frz Hf H fp) := ex_frz fun b hb => (h.off b hb).1
  have hm := h.mem
  cases o with
  | lst l => obtain ⟨_, _, xs, h2, h3⟩ := h; exact .lst (Rd.of ((frz_in hm).trans h2)) (h3.mono e)
  | dct l => obtain ⟨_, _, xs, h2, h3⟩ := h; exact .dct (Rd.of ((frz_in hm).trans h2)) (h3.mono e)
  | tdct l => obtain ⟨_, _, xs, h2, h3⟩ := h; exact .dctT ((frz_in hm).trans h2) (h3.mono e)
  | ldct l => obtain ⟨bs, rfl, h0, h1, h2, h3⟩ := h; exact .dctT ((frz_in hm).trans h2) (h3.den e fun b hb => frz_in (List.mem_cons_of_mem _ hb))
/-- others stay when fp is frozen -/
theorem SlotOk.frzO {ov : Option (Option V)} {g : Slot} {gp : List Addr} (h : SlotOk K Hf H ov g gp) (n : ∀ b ∈ fp, Hf b = none) (d : ∀ b ∈ gp, b ∉ fp) : SlotOk K (DL.frz Hf H fp) H ov g gp :=
  h.stay (fun _ _ => rfl) (ex_frz n) fun b hb => by rw [frz_out (d b hb)]; exact (h.off b hb).1
theorem PendOk.frzO {v : V} {g : Slot} {gp : List Addr} (h : PendOk K Hf H σ v g gp) (n : ∀ b ∈ fp, Hf b = none) (d : ∀ b ∈ gp, b ∉ fp) : PendOk K (DL.frz Hf H fp) H σ v g gp :=
  h.stay (fun _ _ => rfl) (ex_frz n) fun b hb => by rw [frz_out (d b hb)]; exact (h.off b hb).1
/-- the last held value is frozen -/
theorem ReachF.frzP {v : V} {o : Own} (R : ReachF K B Hf H σ Γ f (⟨v, .own o, fp⟩ :: ps)) : ReachF K B (frz Hf H fp) H σ Γ f (⟨v, .d o.dat, []⟩ :: ps) := by
  obtain ⟨a, e, h⟩ : ∃ a, v = .ref a ∧ OwnAt K Hf H a o fp := R.pend _ List.mem_cons_self
  subst e
  have n : ∀ b ∈ fp, Hf b = none := fun b hb => (h.off b hb).1
  have pd := List.pairwise_cons.mp R.pdis
  have R1 : ReachF K B (DL.frz Hf H fp) H σ Γ f ps := by
    refine ⟨R.len, frz_sub R.sub, fun i g hi => (R.slot i g hi).frzO n fun b hb hc => R.psl _ List.mem_cons_self b hc i hb, R.out, R.disj,
      fun q hq => (R.pend q (List.mem_cons_of_mem _ hq)).frzO n fun b hb hc => pd.1 q hq b hc hb, pd.2, fun q hq => R.psl q (List.mem_cons_of_mem _ hq), R.ex.trans (ex_frz n), R.keep, R.dom, fun a ha => ?_, R.own, fun q hq => R.pown q (List.mem_cons_of_mem _ hq), fun a o q => ?_, R.tab.2⟩
    rotate_left
    · by_cases e : a ∈ fp
      · rw [frz_in e] at q; exact h.nt a e o q
      · rw [frz_out e] at q; exact R.tab.1 a o q
    by_cases e : a ∈ fp
    · exact .inr ((R.pown _ List.mem_cons_self a e).imp id .inl)
    · rw [frz_out e] at ha ⊢; exact R.new a ha
  exact R1.pushD h.frz
/-- an owned slot is frozen -/
theorem ReachF.frzS {i : Nat} {o : Own} (R : ReachF K B Hf H σ Γ f ps) (hi : Γ[i]? = some (.own o)) : ReachF K B (frz Hf H (f i)) H σ (Γ.set i (.d o.dat)) (fun j => if j = i then [] else f j) ps := by
  obtain ⟨a, e, h⟩ : ∃ a, σ[i]? = some (some (.ref a)) ∧ OwnAt K Hf H a o (f i) := R.slot i _ hi
  have n : ∀ b ∈ f i, Hf b = none := fun b hb => (h.off b hb).1
  have hil : i < Γ.length := (List.getElem?_eq_some_iff.mp hi).1
  refine ⟨by rw [List.length_set]; exact R.len, frz_sub R.sub, fun j g hj => ?_, fun j hj => ?_, fun j k a ha hb => ?_, fun q hq => (R.pend q hq).frzO n fun b hb hc => R.psl q hq b hb i hc, R.pdis, fun q hq a ha j hb => ?_,
    R.ex.trans (ex_frz n), R.keep, R.dom, fun a ha => ?_, fun j a ha => ?_, R.pown, fun a o q => ?_, R.tab.2⟩
  rotate_right
  · by_cases e : a ∈ f i
    · rw [frz_in e] at q; exact h.nt a e o q
    · rw [frz_out e] at q; exact R.tab.1 a o q
  · by_cases ej : j = i
    · subst ej
      rw [List.getElem?_set_self hil] at hj
      cases hj
      simp only [if_true]
      exact ⟨rfl, _, e, h.frz⟩
    · rw [List.getElem?_set_ne (Ne.symm ej)] at hj
      simp only [ej, if_false]
      exact (R.slot j g hj).frzO n fun b hb hc => ej (R.disj j i b hb hc)
  · by_cases ej : j = i
    · simp [ej]
    · rw [List.getElem?_set_ne (Ne.symm ej)] at hj
      simp only [ej, if_false]
      exact R.out j hj
  · by_cases ej : j = i
    · simp [ej] at ha
    · by_cases ek : k = i
      · simp [ek] at hb
      · simp only [ej, ek, if_false] at ha hb
        exact R.disj j k a ha hb
  · by_cases ej : j = i
    · simp [ej] at hb
    · simp only [ej, if_false] at hb
      exact R.psl q hq a ha j hb
  · by_cases e : a ∈ f i
    · exact .inr ((R.own i a e).imp id .inl)
    · rw [frz_out e] at ha ⊢; exact R.new a ha
  · by_cases ej : j = i
    · simp [ej] at ha
    · simp only [ej, if_false] at ha
      exact R.own j a ha
end
end DL

set_option Elab.async false
set_option linter.all false
set_option maxRecDepth 100000
set_option maxHeartbeats 4000000
namespace DL
open PySem L2
section
variable [TabsC] {K : PySem.W.Frag} {B : Base} {Hf H Hf' H' : Hp} {σ σ' : St} {Γ Γ' : Env} {f f' : Nat → List Addr} {ps ps' : List Pend} {a : Addr} {o : Own} {fp : List Addr} {v w : V} {s t : Slot}

/-- what a held value stands for now -/
def viewD (Γ : Env) : Slot → Option Dat
  | .d x => some x
  | .own o => some o.dat
  | .bor i => match Γ[i]? with
    | some (.own o) => some o.dat
    | some (.d x) => some x
    | _ => none
  | _ => none
/-- .. and freezing it -/
def settle (Γ : Env) : Slot → Option (Dat × Env)
  | .d x => some (x, Γ)
  | .own o => some (o.dat, Γ)
  | .bor i => match Γ[i]? with
    | some (.own o) => some (o.dat, Γ.set i (.d o.dat))
    | some (.d x) => some (x, Γ)
    | _ => none
  | _ => none
/-- the items of a list or tuple (true: a list) -/
def seqOf : Dat → Option (Bool × List Dat)
  | .list l => some (true, l)
  | .tuple l => some (false, l)
  | _ => none

theorem ReachF.viewP {p : Pend} {d : Dat} (R : ReachF K B Hf H σ Γ f ps) (hp : p ∈ ps) (h : viewD Γ p.s = some d) : Den K H p.v d := by
  have q := R.pend p hp
  obtain ⟨v, s, fp⟩ := p
  cases s with
  | no => cases h
  | d x => cases h; exact q.2.mono R.sub
  | own o => cases h; obtain ⟨a, rfl, q⟩ := q; exact q.den R.sub
  | fn a => cases h
  | z ds => cases h
  | bor i =>
    obtain ⟨_, e⟩ := q
    simp only [viewD] at h
    split at h
    · rename_i o ho
      cases h
      obtain ⟨a, e1, q1⟩ := R.slot i _ ho
      rw [e] at e1
      cases e1
      exact q1.den R.sub
    · rename_i x hx
      cases h
      obtain ⟨_, w, e1, q1⟩ := R.slot i _ hx
      rw [e] at e1
      cases e1
      exact q1.mono R.sub
    · cases h
/-- a list's or tuple's items are frozen -/
theorem OwnAt.items {b : Bool} {l : List Dat} (h : OwnAt K Hf H a o fp) (e : seqOf o.dat = some (b, l)) : ∃ xs, (if b then Rd H a (.lst xs) else SqT K H a xs) ∧ Dens K Hf xs l := by
  cases o with
  | lst l' =>
    obtain ⟨_, _, xs, h2, h3⟩ := h
    simp only [Own.dat, seqOf, Option.some.injEq, Prod.mk.injEq] at e
    obtain ⟨rfl, rfl⟩ := e
    exact ⟨xs, Rd.of h2, h3⟩
  | dct l' => cases e
  | tdct l' => cases e
  | ldct l' => cases e
theorem Den.items {b : Bool} {l : List Dat} {d : Dat} (h : Den K Hf v d) (s : Ex Hf H) (e : seqOf d = some (b, l)) : ∃ a xs, v = .ref a ∧ (if b then Rd H a (.lst xs) else SqT K H a xs) ∧ Dens K Hf xs l := by
  cases h with
  | lst h1 h2 =>
    simp only [seqOf, Option.some.injEq, Prod.mk.injEq] at e
    obtain ⟨rfl, rfl⟩ := e
    exact ⟨_, _, rfl, Evl.ex_rd s h1, h2⟩
  | tup h1 h2 =>
    simp only [seqOf, Option.some.injEq, Prod.mk.injEq] at e
    obtain ⟨rfl, rfl⟩ := e
    exact ⟨_, _, rfl, SqT.of (s _ _ h1), h2⟩
  | _ => cases e
theorem ReachF.itemsP {p : Pend} {d : Dat} {b : Bool} {l : List Dat} (R : ReachF K B Hf H σ Γ f ps) (hp : p ∈ ps) (h : viewD Γ p.s = some d) (e : seqOf d = some (b, l)) :
    ∃ a xs, p.v = .ref a ∧ (if b then Rd H a (.lst xs) else SqT K H a xs) ∧ Dens K Hf xs l := by
  have q := R.pend p hp
  obtain ⟨v, s, fp⟩ := p
  cases s with
  | no => cases h
  | d x => cases h; exact q.2.items R.sub e
  | own o => cases h; obtain ⟨a, rfl, q⟩ := q; obtain ⟨xs, q1, q2⟩ := q.items e; exact ⟨a, xs, rfl, q1, q2⟩
  | fn a => cases h
  | z ds => cases h
  | bor i =>
    obtain ⟨_, e0⟩ := q
    simp only [viewD] at h
    split at h
    · rename_i o ho
      cases h
      obtain ⟨a, e1, q1⟩ := R.slot i _ ho
      rw [e0] at e1
      cases e1
      obtain ⟨xs, q1, q2⟩ := q1.items e
      exact ⟨a, xs, rfl, q1, q2⟩
    · rename_i x hx
      cases h
      obtain ⟨_, w, e1, q1⟩ := R.slot i _ hx
      rw [e0] at e1
      cases e1
      exact q1.items R.sub e
    · cases h
theorem Reach.settle {x : Dat} (R : Reach K B Hf H σ Γ (⟨v, s, fp⟩ :: ps)) (h : DL.settle Γ s = some (x, Γ')) : ∃ Hf', Ex Hf Hf' ∧ Reach K B Hf' H σ Γ' (⟨v, .d x, []⟩ :: ps) := by
  obtain ⟨f, R⟩ := R
  cases s with
  | no => cases h
  | d y =>
    simp only [DL.settle, Option.some.injEq, Prod.mk.injEq] at h
    obtain ⟨rfl, rfl⟩ := h
    obtain rfl : fp = [] := (R.pend _ List.mem_cons_self).1
    exact ⟨Hf, Evl.Ex.refl _, f, R⟩
  | own o =>
    simp only [DL.settle, Option.some.injEq, Prod.mk.injEq] at h
    obtain ⟨rfl, rfl⟩ := h
    exact ⟨_, ex_frz fun b hb => (R.poff List.mem_cons_self b hb).1, f, R.frzP⟩
  | fn a => cases h
  | z ds => cases h
  | bor i =>
    obtain ⟨_, e0⟩ := R.pend _ List.mem_cons_self
    simp only [DL.settle] at h
    split at h
    · rename_i o ho
      simp only [Option.some.injEq, Prod.mk.injEq] at h
      obtain ⟨rfl, rfl⟩ := h
      have R2 := R.pop.frzS ho
      refine ⟨_, ex_frz fun b hb => (R.off i b hb).1, _, R2.pushD ?_⟩
      obtain ⟨a, e1, q1⟩ := R.slot i _ ho
      rw [e0] at e1
      cases e1
      exact q1.frz
    · rename_i y hy
      simp only [Option.some.injEq, Prod.mk.injEq] at h
      obtain ⟨rfl, rfl⟩ := h
      obtain ⟨_, w, e1, q1⟩ := R.slot i _ hy
      rw [e0] at e1
      cases e1
      exact ⟨Hf, Evl.Ex.refl _, f, R.pop.pushD q1⟩
    · cases h
theorem settle_len {x : Dat} (h : DL.settle Γ s = some (x, Γ')) : Γ'.length = Γ.length := by
  cases s <;> simp only [DL.settle, Option.some.injEq, Prod.mk.injEq, reduceCtorEq] at h
  · rw [h.2]
  · rw [h.2]
  · split at h <;> simp only [Option.some.injEq, Prod.mk.injEq, reduceCtorEq] at h
    · rw [← h.2, List.length_set]
    · rw [h.2]

/-- a stretch over a new base put behind what stood -/
theorem ReachF.trans (R : ReachF K B Hf H σ Γ f ps) (R2 : ReachF K ⟨Hf, H, fun a => ∃ i, a ∈ f i⟩ Hf' H' σ' Γ' f' ps') (hσ : ps = [] ∨ σ' = σ) : ReachF K B Hf' H' σ' Γ' f' (ps' ++ ps) := by
  have nO : ∀ p ∈ ps, ∀ a ∈ p.fp, ¬ ∃ i, a ∈ f i := fun p hp a ha ⟨i, h⟩ => R.psl p hp a ha i h
  have kk : ∀ p ∈ ps, ∀ a ∈ p.fp, H' a = H a := fun p hp a ha => by
    cases q : H a with
    | none => exact absurd q (R.poff hp a ha).2
    | some u => exact R2.keep a u q (nO p hp a ha) (R.pnt hp a ha u q)
  have nn : ∀ p ∈ ps, ∀ a ∈ p.fp, Hf' a = none := fun p hp a ha => by
    by_cases q : Hf' a = none
    · exact q
    · rcases R2.new a q with z | z | z
      · exact absurd (R.poff hp a ha).1 z
      · cases hu : H a with
        | none => exact absurd hu (R.poff hp a ha).2
        | some u => exact absurd (R.pnt hp a ha u hu) (z u hu)
      · rcases z with z | ⟨xs, z⟩
        · exact (nO p hp a ha z).elim
        · exact absurd ((kk p hp a ha).symm.trans (R2.sub a _ z)) (R.pntup hp a ha xs)
  -- what is held by the new ones is new or was the frame's
  have far : ∀ {a}, (NB ⟨Hf, H, fun a => ∃ i, a ∈ f i⟩ a ∨ ∃ i, a ∈ f i) → ∀ q ∈ ps, a ∉ q.fp := fun {a} h q hq ha => by
    rcases h with h | h
    · cases hu : H a with
      | none => exact (R.poff hq a ha).2 hu
      | some u => exact h u hu (R.pnt hq a ha u hu)
    · exact nO q hq a ha h
  have bo : ∀ {a}, (NB ⟨Hf, H, fun a => ∃ i, a ∈ f i⟩ a ∨ ∃ i, a ∈ f i) → NB B a ∨ B.O a := fun {a} h => by
    rcases h with h | ⟨i, h⟩
    · by_cases hO : B.O a
      · exact .inr hO
      · exact .inl fun o h2 h3 => h o (R.keep a o h2 hO h3) h3
    · exact R.own i a h
  refine ⟨R2.len, R2.sub, R2.slot, R2.out, R2.disj, fun p hp => ?_, ?_, fun p hp => ?_, R.ex.trans R2.ex, fun a u h1 h2 h3 => ?_, fun a o h1 h2 => ?_, fun a h1 => ?_, fun i a ha => bo (R2.own i a ha), fun p hp a ha => ?_, R2.tab⟩
  · rcases List.mem_append.mp hp with hp | hp
    · exact R2.pend p hp
    · have q := (R.pend p hp).stay (fun b hb => kk p hp b hb) R2.ex (fun b hb => nn p hp b hb)
      rcases hσ with z | z
      · rw [z] at hp; cases hp
      · rw [z]; exact q
  · refine List.pairwise_append.mpr ⟨R2.pdis, R.pdis, fun p hp q hq a ha => far (R2.pown p hp a ha) q hq⟩
  · rcases List.mem_append.mp hp with hp | hp
    · exact R2.psl p hp
    · exact fun a ha i hi => far (R2.own i a hi) p hp ha
  · by_cases q : ∃ i, a ∈ f i
    · obtain ⟨i, hi⟩ := q
      rcases R.own i a hi with z | z
      · exact absurd h3 (z u h1)
      · exact absurd z h2
    · exact R2.keep a u (R.keep a u h1 h2 h3) q h3
  · obtain ⟨u, h3, h4⟩ := R.dom a o h1 h2
    exact R2.dom a u h3 h4
  · rcases R2.new a h1 with z | z | z
    · exact (R.new a z).imp id fun q => q.imp id fun q => q.imp id fun ⟨xs, h⟩ => ⟨xs, R2.ex a _ h⟩
    · exact .inr ((bo (.inl z)).imp id .inl)
    · rcases z with z | z
      · exact .inr ((bo (.inr z)).imp id .inl)
      · exact .inr (.inr (.inr z))
  · rcases List.mem_append.mp hp with hp | hp
    · exact bo (R2.pown p hp a ha)
    · exact R.pown p hp a ha
/-- a new base -/
theorem ReachF.base (R : ReachF K B Hf H σ Γ f ps) : ReachF K ⟨Hf, H, fun a => ∃ i, a ∈ f i⟩ Hf H σ Γ f [] :=
  ⟨R.len, R.sub, R.slot, R.out, R.disj, by simp, by simp, by simp, Evl.Ex.refl _, fun _ _ h _ _ => h, fun _ o h n => ⟨o, h, n⟩, fun _ h => .inl h, fun i a h => .inr ⟨i, h⟩, by simp, R.tab⟩
/-- forgetting a slot -/
theorem ReachF.forget {i : Nat} (R : ReachF K B Hf H σ Γ f ps) (hl : i < Γ.length) : ReachF K B Hf H σ (Γ.set i .no) (fun j => if j = i then [] else f j) ps := by
  refine ⟨by rw [List.length_set]; exact R.len, R.sub, fun j g hj => ?_, fun j hj => ?_, fun j k a ha hb => ?_, R.pend, R.pdis, fun q hq a ha j hb => ?_, R.ex, R.keep, R.dom, R.new, fun j a ha => ?_, R.pown, R.tab⟩
  · by_cases ej : j = i
    · subst ej
      rw [List.getElem?_set_self hl] at hj
      cases hj
      simp [SlotOk]
    · rw [List.getElem?_set_ne (Ne.symm ej)] at hj
      simp only [ej, if_false]
      exact R.slot j g hj
  · by_cases ej : j = i
    · simp [ej]
    · rw [List.getElem?_set_ne (Ne.symm ej)] at hj
      simp only [ej, if_false]
      exact R.out j hj
  · by_cases ej : j = i
    · simp [ej] at ha
    · by_cases ek : k = i
      · simp [ek] at hb
      · simp only [ej, ek, if_false] at ha hb
        exact R.disj j k a ha hb
  · by_cases ej : j = i
    · simp [ej] at hb
    · simp only [ej, if_false] at hb
      exact R.psl q hq a ha j hb
  · by_cases ej : j = i
    · simp [ej] at ha
    · simp only [ej, if_false] at ha
      exact R.own j a ha
/-- what a slot may be given -/
def keepable : Slot → Bool
  | .d _ => true
  | .own _ => true
  | .fn _ => true
  | .z _ => true
  | _ => false
/-- the last held value into a slot; the others may not lean on the slots -/
theorem ReachF.store {i : Nat} (R : ReachF K B Hf H σ Γ f (⟨v, s, fp⟩ :: ps)) (hl : i < Γ.length) (ks : keepable s = true) (hp : ∀ p ∈ ps, ∀ j, p.s = .bor j → j ≠ i) :
    ReachF K B Hf H (σ.set i (some v)) (Γ.set i s) (fun j => if j = i then fp else f j) ps := by
  have hls : i < σ.length := by rw [R.len]; exact hl
  have pd := List.pairwise_cons.mp R.pdis
  have P0 : PendOk K Hf H σ v s fp := R.pend _ List.mem_cons_self
  have psl0 : ∀ a ∈ fp, ∀ i, a ∉ f i := R.psl _ List.mem_cons_self
  refine ⟨by rw [List.length_set, List.length_set]; exact R.len, R.sub, fun j g hj => ?_, fun j hj => ?_, fun j k a ha hb => ?_, fun q hq => ?_, pd.2, fun q hq a ha j hb => ?_, R.ex, R.keep, R.dom, R.new, fun j a ha => ?_, fun q hq => R.pown q (List.mem_cons_of_mem _ hq), R.tab⟩
  · by_cases ej : j = i
    · subst ej
      rw [List.getElem?_set_self hl] at hj
      cases hj
      simp only [if_true, List.getElem?_set_self hls]
      cases s with
      | no => cases ks
      | d x => exact ⟨P0.1, v, rfl, P0.2⟩
      | own o => obtain ⟨a, e, q⟩ := P0; exact ⟨a, by rw [e], q⟩
      | bor k => cases ks
      | fn a => exact ⟨P0.1, by rw [P0.2]⟩
      | z ds => exact ⟨P0.1, v, rfl, P0.2⟩
    · rw [List.getElem?_set_ne (Ne.symm ej)] at hj
      simp only [ej, if_false, List.getElem?_set_ne (Ne.symm ej)]
      exact R.slot j g hj
  · by_cases ej : j = i
    · subst ej
      rw [List.getElem?_set_self hl] at hj
      cases hj
    · rw [List.getElem?_set_ne (Ne.symm ej)] at hj
      simp only [ej, if_false]
      exact R.out j hj
  · by_cases ej : j = i
    · by_cases ek : k = i
      · rw [ej, ek]
      · simp only [ej, ek, if_true, if_false] at ha hb
        exact absurd hb (psl0 a ha k)
    · by_cases ek : k = i
      · simp only [ej, ek, if_true, if_false] at ha hb
        exact absurd ha (psl0 a hb j)
      · simp only [ej, ek, if_false] at ha hb
        exact R.disj j k a ha hb
  · have q0 := R.pend q (List.mem_cons_of_mem _ hq)
    obtain ⟨w, t, gp⟩ := q
    cases t with
    | bor j =>
      refine ⟨q0.1, ?_⟩
      rw [List.getElem?_set_ne (Ne.symm (hp _ hq j rfl))]
      exact q0.2
    | no => exact q0
    | d x => exact q0
    | own o => exact q0
    | fn a => exact q0
    | z ds => exact q0
  · by_cases ej : j = i
    · simp only [ej, if_true] at hb
      exact pd.1 q hq a hb ha
    · simp only [ej, if_false] at hb
      exact R.psl q (List.mem_cons_of_mem _ hq) a ha j hb
  · by_cases ej : j = i
    · simp only [ej, if_true] at ha
      exact R.pown _ List.mem_cons_self a ha
    · simp only [ej, if_false] at ha
      exact R.own j a ha
omit [TabsC] in
theorem own_nc0 (h : OwnAt K Hf H a o fp) : ∀ b ∈ fp, ∀ {u}, H b = some u → ∀ c q, u ≠ LamX.CodeO c q := by
  intro b hb u hu c q z
  cases o with
  | lst l =>
    obtain ⟨e, h1, xs, h2, _⟩ := h
    subst e
    obtain rfl : b = a := by simpa using hb
    rw [h2] at hu
    cases hu
    unfold LamX.CodeO at z
    cases z
  | dct l =>
    obtain ⟨e, h1, xs, h2, _⟩ := h
    subst e
    obtain rfl : b = a := by simpa using hb
    rw [h2] at hu
    cases hu
    unfold LamX.CodeO at z
    cases z
  | tdct l =>
    obtain ⟨e, h1, xs, h2, _⟩ := h
    subst e
    obtain rfl : b = a := by simpa using hb
    rw [h2] at hu
    cases hu
    unfold LamX.CodeO at z
    cases z
  | ldct l =>
    obtain ⟨bs, e, _, h1, h2, h3⟩ := h
    subst e
    unfold LamX.CodeO at z
    rcases List.mem_cons.mp hb with rfl | hb
    · rw [h2] at hu; cases hu; cases z
    · obtain ⟨q1, xs, q2⟩ := h3.off b hb
      rw [q2] at hu
      cases hu
      cases z
omit [TabsC] in
theorem own_nc {ov : Option (Option V)} (h : SlotOk K Hf H ov (.own o) fp) : ∀ b ∈ fp, ∀ {u}, H b = some u → ∀ c q, u ≠ LamX.CodeO c q := by
  obtain ⟨a, _, h⟩ := h
  exact own_nc0 h
omit [TabsC] in
theorem own_ncP (h : PendOk K Hf H σ v (.own o) fp) : ∀ b ∈ fp, ∀ {u}, H b = some u → ∀ c q, u ≠ LamX.CodeO c q := by
  obtain ⟨a, _, h⟩ := h
  exact own_nc0 h
/-- a list that a slot owns is written -/
theorem ReachF.writeS {i : Nat} {o o' : Own} {u : HO} (R : ReachF K B Hf H σ Γ f ps) (hi : Γ[i]? = some (.own o)) (hs : σ[i]? = some (some (.ref a))) (hw : OwnAt K Hf (upd H a u) a o' [a]) (h1 : f i = [a]) :
    ReachF K B Hf (upd H a u) σ (Γ.set i (.own o')) f ps := by
  have hil : i < Γ.length := (List.getElem?_eq_some_iff.mp hi).1
  have ha : a ∈ f i := by rw [h1]; simp
  have na : ∀ j, j ≠ i → a ∉ f j := fun j hj hb => hj (R.disj j i a hb ha)
  have np : ∀ p ∈ ps, a ∉ p.fp := fun p hp hb => R.psl p hp a hb i ha
  have kk : ∀ b, b ≠ a → upd H a u b = H b := fun b hb => upd_ne hb
  refine ⟨by rw [List.length_set]; exact R.len, fun b z q => ?_, fun j g hj => ?_, fun j hj => ?_, R.disj, fun p hp => ?_, R.pdis, R.psl, R.ex, fun b z q nO nt => ?_, fun b o1 hb1 hb => ?_, R.new, R.own, R.pown, R.tab.1, tabs_upd R.tab.2 fun o ho => ⟨R.nt i a ha o ho, own_nc (R.slot i _ hi) a ha ho⟩⟩
  · have hne : b ≠ a := fun e => by
      rw [e, (R.off i a ha).1] at q; cases q
    rw [kk b hne]; exact R.sub b z q
  · by_cases ej : j = i
    · subst ej
      rw [List.getElem?_set_self hil] at hj
      cases hj
      rw [h1]
      exact ⟨a, hs, hw⟩
    · rw [List.getElem?_set_ne (Ne.symm ej)] at hj
      exact (R.slot j g hj).stay (fun b hb => kk b fun e => na j ej (e ▸ hb)) (Evl.Ex.refl _) fun b hb => (R.off j b hb).1
  · by_cases ej : j = i
    · subst ej
      rw [List.getElem?_set_self hil] at hj
      cases hj
    · rw [List.getElem?_set_ne (Ne.symm ej)] at hj
      exact R.out j hj
  · exact (R.pend p hp).stay (fun b hb => kk b fun e => np p hp (e ▸ hb)) (Evl.Ex.refl _) fun b hb => (R.poff hp b hb).1
  · have hne : b ≠ a := fun e => by
      subst e
      rcases R.own i b ha with z' | z'
      · exact absurd nt (z' z q)
      · exact nO z'
    rw [kk b hne]; exact R.keep b z q nO nt
  · by_cases hne : b = a
    · exact ⟨u, by rw [hne, upd_same], hw.nt a (by simp) u upd_same⟩
    · rw [kk b hne]; exact R.dom b o1 hb1 hb
/-- the last held list is written -/
theorem ReachF.writeP {o o' : Own} {u : HO} (R : ReachF K B Hf H σ Γ f (⟨.ref a, .own o, [a]⟩ :: ps)) (hw : OwnAt K Hf (upd H a u) a o' [a]) :
    ReachF K B Hf (upd H a u) σ Γ f (⟨.ref a, .own o', [a]⟩ :: ps) := by
  have pd := List.pairwise_cons.mp R.pdis
  have na : ∀ j, a ∉ f j := fun j => R.psl _ List.mem_cons_self a (by simp) j
  have np : ∀ p ∈ ps, a ∉ p.fp := fun p hp => pd.1 p hp a (by simp)
  have kk : ∀ b, b ≠ a → upd H a u b = H b := fun b hb => upd_ne hb
  have off := R.poff List.mem_cons_self a (by simp)
  refine ⟨R.len, fun b z q => ?_, fun j g hj => ?_, R.out, R.disj, fun p hp => ?_, ?_, fun p hp => ?_, R.ex, fun b z q nO nt => ?_, fun b o1 hb1 hb => ?_, R.new, R.own, fun p hp => ?_, R.tab.1, tabs_upd R.tab.2 fun o ho => ⟨R.pnt List.mem_cons_self a (by simp) o ho, own_ncP (R.pend _ List.mem_cons_self) a (by simp) ho⟩⟩
  · have hne : b ≠ a := fun e => by
      rw [e, off.1] at q; cases q
    rw [kk b hne]; exact R.sub b z q
  · exact (R.slot j g hj).stay (fun b hb => kk b fun e => na j (e ▸ hb)) (Evl.Ex.refl _) fun b hb => (R.off j b hb).1
  · rcases List.mem_cons.mp hp with rfl | hp
    · exact ⟨a, rfl, hw⟩
    · exact (R.pend p (List.mem_cons_of_mem _ hp)).stay (fun b hb => kk b fun e => np p hp (e ▸ hb)) (Evl.Ex.refl _) fun b hb => (R.poff (List.mem_cons_of_mem _ hp) b hb).1
  · exact List.pairwise_cons.mpr ⟨pd.1, pd.2⟩
  · rcases List.mem_cons.mp hp with rfl | hp
    · exact R.psl ⟨.ref a, .own o, [a]⟩ List.mem_cons_self
    · exact R.psl p (List.mem_cons_of_mem _ hp)
  · have hne : b ≠ a := fun e => by
      subst e
      rcases R.pown _ List.mem_cons_self b (by simp) with z' | z'
      · exact absurd nt (z' z q)
      · exact nO z'
    rw [kk b hne]; exact R.keep b z q nO nt
  · by_cases hne : b = a
    · exact ⟨u, by rw [hne, upd_same], hw.nt a (by simp) u upd_same⟩
    · rw [kk b hne]; exact R.dom b o1 hb1 hb
  · rcases List.mem_cons.mp hp with rfl | hp
    · exact R.pown ⟨.ref a, .own o, [a]⟩ List.mem_cons_self
    · exact R.pown p (List.mem_cons_of_mem _ hp)
end

/-! ### the readings -/
section
variable [TabsC] (K : PySem.W.Frag)
/-- an expression evaluates as m says -/
def tM (m : M) : TE := fun σ H Q => ∃ B Hf Γ ps r Γ', Reach K B Hf H σ Γ ps ∧ m Γ = some (r, Γ') ∧ ∀ v fp Hf' H', Reach K B Hf' H' σ Γ' (⟨v, r, fp⟩ :: ps) → Q v H'
abbrev MT := Env → Option (Bool × Env)
/-- a test -/
def tT (m : MT) : TT := fun σ H Q => ∃ B Hf Γ ps r Γ', Reach K B Hf H σ Γ ps ∧ m Γ = some (r, Γ') ∧ ∀ Hf' H', Reach K B Hf' H' σ Γ' ps → Q r H'
abbrev MA := Env → Option (List Slot × Env)
/-- what is held of a row of values, the last one first -/
inductive Held : List V → List Slot → List Pend → Prop
  | nil : Held [] [] []
  | snoc {vs : List V} {ss : List Slot} {ps : List Pend} {v : V} {s : Slot} {fp : List Addr} : Held vs ss ps → Held (vs ++ [v]) (ss ++ [s]) (⟨v, s, fp⟩ :: ps)
/-- a row of arguments: held values -/
def tA (m : MA) : TA := fun σ H Q => ∃ B Hf Γ ps r Γ', Reach K B Hf H σ Γ ps ∧ m Γ = some (r, Γ') ∧ ∀ vs qs Hf' H', Held vs r qs → Reach K B Hf' H' σ Γ' (qs ++ ps) → Q vs H'
/-- a row of data, all frozen -/
abbrev MD := Env → Option (List Dat × Env)
def tAD (m : MD) : TA := fun σ H Q => ∃ B Hf Γ ps r Γ', Reach K B Hf H σ Γ ps ∧ m Γ = some (r, Γ') ∧ ∀ vs Hf' H', Dens K Hf' vs r → Reach K B Hf' H' σ Γ' ps → Q vs H'
inductive Flw where
  | nx
  | ret (s : Slot)
  | bk
  | ct
abbrev MS := Env → Option (Flw × Env)
/-- what stays of the slots where those of W may be stored -/
def Stay (W : List Nat) (σ σ' : St) : Prop := ∀ i, i ∉ W → σ'[i]? = σ[i]?
def Ends.of (D : Ends) (W : List Nat) (σ : St) (B : Base) (Γ' : Env) : Flw → Prop
  | .nx => ∀ σ' Hf' H', Stay W σ σ' → Reach K B Hf' H' σ' Γ' [] → D.nx σ' H'
  | .ret r => ∀ σ' v fp Hf' H', Stay W σ σ' → Reach K B Hf' H' σ' Γ' [⟨v, r, fp⟩] → D.rt v H'
  | .bk => ∀ σ' Hf' H', Stay W σ σ' → Reach K B Hf' H' σ' Γ' [] → D.bk σ' H'
  | .ct => ∀ σ' Hf' H', Stay W σ σ' → Reach K B Hf' H' σ' Γ' [] → D.ct σ' H'
def tS (W : List Nat) (m : MS) : TS := fun D σ H => ∃ B Hf Γ fl Γ', Reach K B Hf H σ Γ [] ∧ m Γ = some (fl, Γ') ∧ Ends.of K D W σ B Γ' fl
end
theorem Stay.refl (W : List Nat) (σ : St) : Stay W σ σ := fun _ _ => rfl
theorem Stay.trans {W : List Nat} {a b c : St} (h : Stay W a b) (k : Stay W b c) : Stay W a c := fun i hi => (k i hi).trans (h i hi)
theorem Stay.mono {W W' : List Nat} {a b : St} (h : Stay W a b) (k : ∀ i, i ∈ W → i ∈ W') : Stay W' a b := fun i hi => h i fun z => hi (k i z)
end DL

set_option Elab.async false
set_option linter.all false
set_option maxRecDepth 100000
set_option maxHeartbeats 4000000
namespace DL
open PySem L2
variable [TabsC]
/-- what every rule asks of where it stands -/
structure Cok (k : Nat) (X : Cx) : Prop where
  calm : X.calm = true
  room : Room k X.A
  nd : X.N.Nodup
theorem Cok.hu {k : Nat} {X : Cx} (h : Cok k X) : X.A.units + 64 < cLine := h.room.units
theorem Cok.blk {k : Nat} {X : Cx} (h : Cok k X) (s : Shared) (H : Hp) (sc : Scope) (ce : PySem.Env) (fp : List Addr) : Cok k (X.blk s H sc ce fp) := ⟨h.calm, h.room, h.nd⟩
section
variable {X : Cx} {K : PySem.W.Frag} {a b e : Expr} {ma mb mc : M} {mt mu : MT} {pos : Pos}
theorem PE.imp {e : Expr} {t t' : TE} (h : PE X e t) (i : ∀ σ H Q, t' σ H Q → t σ H Q) : PE X e t' := ⟨fun pins s σ H Q I q => h.run pins s σ H Q I (i σ H Q q)⟩
theorem PT.imp {e : Expr} {t t' : TT} (h : PT X e t) (i : ∀ σ H Q, t' σ H Q → t σ H Q) : PT X e t' := ⟨fun pins s σ H Q I q => h.run pins s σ H Q I (i σ H Q q)⟩
theorem PW.imp {e : Expr} {t t' : TT} (h : PW X e t) (i : ∀ σ H Q, t' σ H Q → t σ H Q) : PW X e t' := ⟨fun wh pins s σ H Q I q => h.run wh pins s σ H Q I (i σ H Q q)⟩
theorem PA.imp {es : List Expr} {t t' : TA} (h : PA X es t) (i : ∀ σ H Q, t' σ H Q → t σ H Q) : PA X es t' := ⟨fun p pins s σ H Q I q => h.run p pins s σ H Q I (i σ H Q q)⟩
theorem PS.imp {st : Stmt} {t t' : TS} (h : PS X st t) (i : ∀ D σ H, t' D σ H → t D σ H) : PS X st t' := ⟨fun pins s σ H D I q => h.run pins s σ H D I (i D σ H q)⟩
theorem PSs.imp {st : List Stmt} {t t' : TS} (h : PSs X st t) (i : ∀ D σ H, t' D σ H → t D σ H) : PSs X st t' := ⟨fun pins s σ H D I q => h.run pins s σ H D I (i D σ H q)⟩
theorem bindE {α β : Type} {o : Option α} {g : α → Option β} {y : β} (h : o.bind g = some y) : ∃ x, o = some x ∧ g x = some y := Option.bind_eq_some_iff.mp h

/-! ### names, constants -/
def mVar (i : Nat) : M := fun Γ => match Γ[i]? with
  | some (.d x) => some (.d x, Γ)
  | some (.own _) => some (.bor i, Γ)
  | some (.fn a) => some (.fn a, Γ)
  | _ => none
theorem var_imp {i : Nat} {σ : St} {H : Hp} {Q : VK} (h : tM K (mVar i) σ H Q) : tVar i σ H Q := by
  obtain ⟨B, Hf, Γ, ps, r, Γ', ⟨f, R⟩, e, k⟩ := h
  simp only [mVar] at e
  split at e
  · rename_i x hx
    simp only [Option.some.injEq, Prod.mk.injEq] at e
    obtain ⟨rfl, rfl⟩ := e
    obtain ⟨_, v, e1, q⟩ := R.slot i _ hx
    exact ⟨v, e1, k v [] Hf H ⟨f, R.pushD q⟩⟩
  · rename_i o ho
    simp only [Option.some.injEq, Prod.mk.injEq] at e
    obtain ⟨rfl, rfl⟩ := e
    obtain ⟨a, e1, q⟩ := R.slot i _ ho
    exact ⟨_, e1, k (.ref a) [] Hf H ⟨f, R.push ⟨rfl, e1⟩ (by simp) (by simp)⟩⟩
  · rename_i a ha
    simp only [Option.some.injEq, Prod.mk.injEq] at e
    obtain ⟨rfl, rfl⟩ := e
    obtain ⟨_, e1⟩ := R.slot i _ ha
    exact ⟨_, e1, k (.ref a) [] Hf H ⟨f, R.push ⟨rfl, rfl⟩ (by simp) (by simp)⟩⟩
  · cases e
theorem d_var (i : Nat) {x : Str} (hN : X.N[i]? = some x := by rfl) (hv : Vis X.env.scope x := by first | exact Or.inl rfl | exact Or.inr (Or.inl rfl) | exact Or.inr (Or.inr rfl)) (hd : (x == ("__debug__" : Str)) = false := by decide)
    (hcd : (x == ("__classdict__" : Str)) = false := by decide) : PE X (.Name x pos) (tM X.K (mVar i)) :=
  PE.imp (pe_var hN hv hd hcd) fun _ _ _ => var_imp
def mC (d : Dat) : M := fun Γ => some (.d d, Γ)
theorem c_imp {d : Dat} {v : V} (hv : ∀ H, Den K H v d) {σ : St} {H : Hp} {Q : VK} (h : tM K (mC d) σ H Q) : tC v σ H Q := by
  obtain ⟨B, Hf, Γ, ps, r, Γ', ⟨f, R⟩, e, k⟩ := h
  simp only [mC, Option.some.injEq, Prod.mk.injEq] at e
  obtain ⟨rfl, rfl⟩ := e
  exact k v [] Hf H ⟨f, R.pushD (hv Hf)⟩
theorem d_int {i j pos} : PE X (.Constant (.int i) j pos) (tM X.K (mC (.int i))) := PE.imp pe_int fun _ _ _ => c_imp fun _ => .int i
theorem d_bl {b j pos} : PE X (.Constant (.bool b) j pos) (tM X.K (mC (.bool b))) := PE.imp pe_bl fun _ _ _ => c_imp fun _ => .bl b
theorem d_non {j pos} : PE X (.Constant .none j pos) (tM X.K (mC .none)) := PE.imp pe_non fun _ _ _ => c_imp fun _ => .non
theorem d_str {x j pos} : PE X (.Constant (.str x) j pos) (tM X.K (mC (.str x))) := PE.imp pe_str fun _ _ _ => c_imp fun _ => .str x
/-- a module's constant -/
theorem d_glob {x : Str} {v : V} {u : Value} {d : Dat} (hm : X.mg x = some u) (r : RelV v u) (hv : ∀ H, Den X.K H v d) (hg : Gl X x := by rfl) (hd : (x == ("__debug__" : Str)) = false := by decide) : PE X (.Name x pos) (tM X.K (mC d)) :=
  PE.imp (pe_glob hg hm r hd) fun _ _ _ => c_imp hv
/-- a module's def as a value -/
def mFn (a : Addr) : M := fun Γ => some (.fn a, Γ)
theorem d_fn {x : Str} {f : Addr} (hm : X.mg x = some (.ref f)) (hg : Gl X x := by rfl) (hd : (x == ("__debug__" : Str)) = false := by decide) : PE X (.Name x pos) (tM X.K (mFn f)) :=
  PE.imp (pe_glob (v := .ref f) hg hm rfl hd) fun σ H Q h => by
    obtain ⟨B, Hf, Γ, ps, r, Γ', ⟨f, R⟩, e, k⟩ := h
    simp only [mFn, Option.some.injEq, Prod.mk.injEq] at e
    obtain ⟨rfl, rfl⟩ := e
    exact k _ [] Hf H ⟨f, R.push ⟨rfl, rfl⟩ (by simp) (by simp)⟩

/-! ### two operands -/
def mBin (g : Slot → Slot → Env → Option (Slot × Env)) (ma mb : M) : M := fun Γ => (ma Γ).bind fun p => (mb p.2).bind fun q => g p.1 q.1 q.2
def R2M (K : PySem.W.Frag) (r : R2) (g : Slot → Slot → Env → Option (Slot × Env)) : Prop :=
  ∀ B Hf H σ Γ ps x y s1 s2 fp1 fp2 res Γ', Reach K B Hf H σ Γ (⟨y, s2, fp2⟩ :: ⟨x, s1, fp1⟩ :: ps) → g s1 s2 Γ = some (res, Γ') →
    ∀ Q : VK, (∀ v fp Hf' H', Reach K B Hf' H' σ Γ' (⟨v, res, fp⟩ :: ps) → Q v H') → r x y H Q
theorem op_imp {r : R2} {g : Slot → Slot → Env → Option (Slot × Env)} (hr : R2M K r g) {σ : St} {H : Hp} {Q : VK} (h : tM K (mBin g ma mb) σ H Q) : tOp r (tM K ma) (tM K mb) σ H Q := by
  obtain ⟨B, Hf, Γ, ps, r, Γ', R, e, k⟩ := h
  obtain ⟨⟨s1, Γ1⟩, e1, e⟩ := bindE e
  obtain ⟨⟨s2, Γ2⟩, e2, e⟩ := bindE e
  exact ⟨B, Hf, Γ, ps, s1, Γ1, R, e1, fun x fp1 Hf1 H1 R1 => ⟨B, Hf1, Γ1, _, s2, Γ2, R1, e2, fun y fp2 Hf2 H2 R2 => hr B Hf2 H2 σ Γ2 ps x y s1 s2 fp1 fp2 _ _ R2 e Q k⟩⟩
theorem d_op {op : Operator} {r : R2} {g : Slot → Slot → Env → Option (Slot × Env)} (ho : OpR X (binaryOp op) r) (hr : R2M X.K r g) (ha : PE X a (tM X.K ma)) (hb : PE X b (tM X.K mb)) : PE X (.BinOp a op b pos) (tM X.K (mBin g ma mb)) :=
  PE.imp (pe_op ho ha hb) fun _ _ _ => op_imp hr
theorem d_cmp {op : CmpOp} {r : R2} {g : Slot → Slot → Env → Option (Slot × Env)} (ho : OpR X (compareOp op) r) (hr : R2M X.K r g) (ha : PE X a (tM X.K ma)) (hb : PE X b (tM X.K mb)) (hm : behindInMarks op b = false) : PE X (.Compare a [op] [b] pos) (tM X.K (mBin g ma mb)) :=
  PE.imp (pe_cmpR ho ha hb hm) fun _ _ _ => op_imp hr
/-- a bool as a test -/
def mB (m : M) : MT := fun Γ => (m Γ).bind fun p => match p.1 with
  | .d (.bool b) => some (b, p.2)
  | _ => none
theorem mB_some {m : M} {Γ Γ' : Env} {b : Bool} (h : mB m Γ = some (b, Γ')) : m Γ = some (.d (.bool b), Γ') := by
  obtain ⟨⟨s, Γ1⟩, e1, e⟩ := bindE h
  revert e
  cases s with
  | d x =>
    cases x <;> intro e <;> simp only [Option.some.injEq, Prod.mk.injEq, reduceCtorEq] at e
    obtain ⟨rfl, rfl⟩ := e
    exact e1
  | _ => intro e; cases e
theorem b_imp {m : M} {t : TE} (i : ∀ σ H Q, tM K m σ H Q → t σ H Q) {σ : St} {H : Hp} {Q : Bool → Hp → Prop} (h : tT K (mB m) σ H Q) : t σ H fun x H' => ∃ k, x = .bl k ∧ Q k H' := by
  obtain ⟨B, Hf, Γ, ps, r, Γ', R, e, k⟩ := h
  refine i _ _ _ ⟨B, Hf, Γ, ps, _, Γ', R, mB_some e, fun v fp Hf' H' R' => ?_⟩
  obtain ⟨f, R'⟩ := R'
  have q := (R'.pend _ List.mem_cons_self).2
  cases q
  exact ⟨r, rfl, k Hf' H' ⟨f, R'.pop⟩⟩
theorem dt_cmp {op : CmpOp} {r : R2} {g : Slot → Slot → Env → Option (Slot × Env)} (ho : OpR X (compareOp op) r) (hr : R2M X.K r g) (ha : PE X a (tM X.K ma)) (hb : PE X b (tM X.K mb)) (hm : behindInMarks op b = false) : PT X (.Compare a [op] [b] pos) (tT X.K (mB (mBin g ma mb))) :=
  PT.imp (pt_cmpR ho ha hb hm) fun _ _ _ => b_imp fun _ _ _ => op_imp hr
/-- results without an object -/
def gSc (g : Dat → Dat → Option Dat) : Slot → Slot → Env → Option (Slot × Env) := fun s1 s2 Γ => (viewD Γ s1).bind fun d => (viewD Γ s2).bind fun e => (g d e).bind fun z => some (.d z, Γ)
theorem r2_sc {r : R2} {g : Dat → Dat → Option Dat} (h : ∀ H x y d e z, Den K H x d → Den K H y e → g d e = some z → ∃ zv, scV z = some zv ∧ ∀ Q : VK, Q zv H → r x y H Q) : R2M K r (gSc g) := by
  intro B Hf H σ Γ ps x y s1 s2 fp1 fp2 res Γ' ⟨f, R⟩ e Q k
  obtain ⟨d, e1, e⟩ := bindE e
  obtain ⟨d2, e2, e⟩ := bindE e
  obtain ⟨z, e3, e⟩ := bindE e
  simp only [Option.some.injEq, Prod.mk.injEq] at e
  obtain ⟨rfl, rfl⟩ := e
  obtain ⟨zv, q1, q2⟩ := h H x y d d2 z (R.viewP (p := ⟨x, s1, fp1⟩) (by simp) e1) (R.viewP (p := ⟨y, s2, fp2⟩) (by simp) e2) e3
  exact q2 Q (k zv [] Hf H ⟨f, R.pop.pop.pushD (scV_den q1)⟩)
/-- integers -/
def iD (g : Int → Int → Dat) : Dat → Dat → Option Dat
  | .int i, .int j => some (g i j)
  | _, _ => none
def iDC (C : Int → Int → Bool) (g : Int → Int → Dat) : Dat → Dat → Option Dat
  | .int i, .int j => if C i j then some (g i j) else none
  | _, _ => none
theorem r2_int {g : Int → Int → V} {gd : Int → Int → Dat} (hg : ∀ i j, scV (gd i j) = some (g i j)) : R2M K (rI0 g) (gSc (iD gd)) := by
  refine r2_sc fun H x y d e z hx hy h => ?_
  cases d <;> cases e <;> simp only [iD, Option.some.injEq, reduceCtorEq] at h
  subst h
  cases hx
  cases hy
  exact ⟨_, hg _ _, fun Q q => ⟨_, _, rfl, rfl, q⟩⟩
theorem r2_intC {C : Int → Int → Prop} {Cb : Int → Int → Bool} {g : Int → Int → V} {gd : Int → Int → Dat} (hc : ∀ i j, Cb i j = true → C i j) (hg : ∀ i j, scV (gd i j) = some (g i j)) : R2M K (rI C g) (gSc (iDC Cb gd)) := by
  refine r2_sc fun H x y d e z hx hy h => ?_
  cases d <;> cases e <;> simp only [iDC, reduceCtorEq] at h
  split at h
  · rename_i hC
    simp only [Option.some.injEq] at h
    subst h
    cases hx
    cases hy
    exact ⟨_, hg _ _, fun Q q => ⟨_, _, rfl, rfl, hc _ _ hC, q⟩⟩
  · cases h
abbrev gSub := gSc (iD fun i j => .int (i - j))
abbrev gLt := gSc (iD fun i j => .bool (decide (i < j)))
abbrev gLe := gSc (iD fun i j => .bool (decide (i ≤ j)))
abbrev gGt := gSc (iD fun i j => .bool (decide (j < i)))
abbrev gGe := gSc (iD fun i j => .bool (decide (j ≤ i)))
def fdC (i j : Int) : Bool := decide (j ≠ 0) && decide (j.natAbs < 1073741824)
def mdC (i j : Int) : Bool := decide (j ≠ 0)
def pwC (i j : Int) : Bool := decide (0 ≤ j) && decide (j ≤ 1000000) && decide (i.natAbs < 2 ^ 64)
abbrev gFdiv := gSc (iDC fdC fun i j => .int (i.fdiv j))
abbrev gMod := gSc (iDC mdC fun i j => .int (i.fmod j))
abbrev gPow := gSc (iDC pwC fun i j => .int (i ^ j.toNat))
theorem d_sub (ha : PE X a (tM X.K ma)) (hb : PE X b (tM X.K mb)) : PE X (.BinOp a .Sub b pos) (tM X.K (mBin gSub ma mb)) := d_op op_sub (r2_int fun _ _ => rfl) ha hb
theorem d_fdiv (ha : PE X a (tM X.K ma)) (hb : PE X b (tM X.K mb)) : PE X (.BinOp a .FloorDiv b pos) (tM X.K (mBin gFdiv ma mb)) :=
  d_op op_fdivN (r2_intC (fun i j h => by simpa [fdC, CDivN] using h) fun _ _ => rfl) ha hb
theorem d_mod (ha : PE X a (tM X.K ma)) (hb : PE X b (tM X.K mb)) : PE X (.BinOp a .Mod b pos) (tM X.K (mBin gMod ma mb)) :=
  d_op op_modN (r2_intC (fun i j h => by simpa [mdC] using h) fun _ _ => rfl) ha hb
theorem d_pow (ha : PE X a (tM X.K ma)) (hb : PE X b (tM X.K mb)) : PE X (.BinOp a .Pow b pos) (tM X.K (mBin gPow ma mb)) :=
  d_op op_pow (r2_intC (fun i j h => by simp only [pwC, Bool.and_eq_true, decide_eq_true_eq] at h; exact ⟨h.1.1, h.1.2, h.2⟩) fun _ _ => rfl) ha hb
theorem d_lt (ha : PE X a (tM X.K ma)) (hb : PE X b (tM X.K mb)) : PE X (.Compare a [.Lt] [b] pos) (tM X.K (mBin gLt ma mb)) := d_cmp op_lt (r2_int fun _ _ => rfl) ha hb (nomark _)
theorem d_le (ha : PE X a (tM X.K ma)) (hb : PE X b (tM X.K mb)) : PE X (.Compare a [.LtE] [b] pos) (tM X.K (mBin gLe ma mb)) := d_cmp op_le (r2_int fun _ _ => rfl) ha hb (nomark _)
theorem d_gt (ha : PE X a (tM X.K ma)) (hb : PE X b (tM X.K mb)) : PE X (.Compare a [.Gt] [b] pos) (tM X.K (mBin gGt ma mb)) := d_cmp op_gt (r2_int fun _ _ => rfl) ha hb (nomark _)
theorem d_ge (ha : PE X a (tM X.K ma)) (hb : PE X b (tM X.K mb)) : PE X (.Compare a [.GtE] [b] pos) (tM X.K (mBin gGe ma mb)) := d_cmp op_ge (r2_int fun _ _ => rfl) ha hb (nomark _)
theorem dt_lt (ha : PE X a (tM X.K ma)) (hb : PE X b (tM X.K mb)) : PT X (.Compare a [.Lt] [b] pos) (tT X.K (mB (mBin gLt ma mb))) := dt_cmp op_lt (r2_int fun _ _ => rfl) ha hb (nomark _)
theorem dt_le (ha : PE X a (tM X.K ma)) (hb : PE X b (tM X.K mb)) : PT X (.Compare a [.LtE] [b] pos) (tT X.K (mB (mBin gLe ma mb))) := dt_cmp op_le (r2_int fun _ _ => rfl) ha hb (nomark _)
theorem dt_gt (ha : PE X a (tM X.K ma)) (hb : PE X b (tM X.K mb)) : PT X (.Compare a [.Gt] [b] pos) (tT X.K (mB (mBin gGt ma mb))) := dt_cmp op_gt (r2_int fun _ _ => rfl) ha hb (nomark _)
theorem dt_ge (ha : PE X a (tM X.K ma)) (hb : PE X b (tM X.K mb)) : PT X (.Compare a [.GtE] [b] pos) (tT X.K (mB (mBin gGe ma mb))) := dt_cmp op_ge (r2_int fun _ _ => rfl) ha hb (nomark _)
/-! == and != of data -/
theorem canLayAll {ds : List Dat} (h : PyData.canLayAll0 ds = true) : ∀ d ∈ ds, d.canLay0 = true := by
  induction ds with
  | nil => simp
  | cons d r ih =>
    have h' : d.canLay0 = true ∧ PyData.canLayAll0 r = true := by simpa [PyData.canLayAll0] using h
    intro x hx
    rcases List.mem_cons.mp hx with rfl | hx
    · exact h'.1
    · exact ih h'.2 x hx
mutual
theorem Den.dp {H : Hp} : ∀ {d : Dat} {v : V}, d.canLay0 = true → Den K H v d → Dp K H v d
  | .none, _, _, h => by cases h; exact .non
  | .bool _, _, _, h => by cases h; exact .bl _
  | .int _, _, _, h => by cases h; exact .int _
  | .str _, _, _, h => by cases h; exact .str _
  | .list ds, _, c, h => by cases h with | lst s r => exact .lst (.inl s) (Dens.dp (by simpa [PyData.canLay0] using c) r)
  | .tuple ds, _, c, h => by cases h with | tup s r => exact .tup (SqT.of s) (Dens.dp (by simpa [PyData.canLay0] using c) r)
  | .dict ps, _, c, h => by simp [PyData.canLay0] at c
theorem Dens.dp {H : Hp} : ∀ {ds : List Dat} {vs : List V}, PyData.canLayAll0 ds = true → Dens K H vs ds → DpAll K H vs ds
  | [], _, _, h => by cases h; exact .nil
  | d :: ds, _, c, h => by
    have h' : d.canLay0 = true ∧ PyData.canLayAll0 ds = true := by simpa [PyData.canLayAll0] using c
    cases h with
    | cons a b => exact .cons (Den.dp h'.1 a) (Dens.dp h'.2 b)
end
def eqD (d e : Dat) : Option Dat := if SeqAt.shaped d && SeqAt.shaped e then some (.bool (PyData.eqv d e)) else none
def neD (d e : Dat) : Option Dat := if SeqAt.shaped d && SeqAt.shaped e then some (.bool (!PyData.eqv d e)) else none
theorem r2_eq : R2M K (rEqD K) (gSc eqD) := r2_sc fun H x y d e z hx hy h => by
  unfold eqD at h
  split at h
  · rename_i hs
    rw [Bool.and_eq_true] at hs
    cases h
    exact ⟨_, rfl, fun Q q => ⟨d, e, hx.dp (SeqAt.canLay_of_shaped hs.1), hy.dp (SeqAt.canLay_of_shaped hs.2), hs.1, hs.2, q⟩⟩
  · cases h
theorem r2_ne : R2M K (rNeD K) (gSc neD) := r2_sc fun H x y d e z hx hy h => by
  unfold neD at h
  split at h
  · rename_i hs
    rw [Bool.and_eq_true] at hs
    cases h
    exact ⟨_, rfl, fun Q q => ⟨d, e, hx.dp (SeqAt.canLay_of_shaped hs.1), hy.dp (SeqAt.canLay_of_shaped hs.2), hs.1, hs.2, q⟩⟩
  · cases h
abbrev gEq := gSc eqD
abbrev gNe := gSc neD
variable {k : Nat}
theorem d_eq (c : Cok k X) (ha : PE X a (tM X.K ma)) (hb : PE X b (tM X.K mb)) : PE X (.Compare a [.Eq] [b] pos) (tM X.K (mBin gEq ma mb)) := d_cmp (op_eqD c.hu) r2_eq ha hb (nomark _)
theorem d_ne (c : Cok k X) (ha : PE X a (tM X.K ma)) (hb : PE X b (tM X.K mb)) : PE X (.Compare a [.NotEq] [b] pos) (tM X.K (mBin gNe ma mb)) := d_cmp (op_neD c.hu) r2_ne ha hb (nomark _)
theorem dt_eq (c : Cok k X) (ha : PE X a (tM X.K ma)) (hb : PE X b (tM X.K mb)) : PT X (.Compare a [.Eq] [b] pos) (tT X.K (mB (mBin gEq ma mb))) := dt_cmp (op_eqD c.hu) r2_eq ha hb (nomark _)
theorem dt_ne (c : Cok k X) (ha : PE X a (tM X.K ma)) (hb : PE X b (tM X.K mb)) : PT X (.Compare a [.NotEq] [b] pos) (tT X.K (mB (mBin gNe ma mb))) := dt_cmp (op_neD c.hu) r2_ne ha hb (nomark _)
/-! in, not in: flat items of a list or tuple; data in a list -/
def flatD : Dat → Bool
  | .none => true
  | .bool _ => true
  | .int _ => true
  | .str _ => true
  | _ => false
theorem flat_den {H : Hp} {v : V} {d : Dat} (h : Den K H v d) (f : flatD d = true) : flatV v = true := by
  cases h <;> first | rfl | cases f
theorem flat_dens {H : Hp} : ∀ {ds : List Dat} {vs : List V}, Dens K H vs ds → ds.all flatD = true → vs.all flatV = true
  | _, _, .nil, _ => rfl
  | _, _, .cons a b, f => by
    rw [List.all_cons, Bool.and_eq_true] at f ⊢
    exact ⟨flat_den a f.1, flat_dens b f.2⟩
theorem eqV_eqv {H : Hp} {v w : V} {d e : Dat} (h : Den K H v d) (h2 : Den K H w e) (f : flatD d = true) (f2 : flatD e = true) : eqV v w = PyData.eqv d e := by
  cases h <;> cases h2 <;> first | rfl | cases f | cases f2
theorem inV_any {H : Hp} {x : V} {d : Dat} (h : Den K H x d) (f : flatD d = true) : ∀ {ds : List Dat} {vs : List V}, Dens K H vs ds → ds.all flatD = true → inV x vs = ds.any fun z => PyData.eqv z d
  | _, _, .nil, _ => rfl
  | _, _, .cons a b, g => by
    rw [List.all_cons, Bool.and_eq_true] at g
    have ih := inV_any h f b g.2
    unfold inV at ih ⊢
    rw [List.any_cons, List.any_cons, ih, eqV_eqv a h g.1 f]
def inD (neg : Bool) (d e : Dat) : Option Dat := (seqOf e).bind fun p =>
  if flatD d && p.2.all flatD then some (.bool (if neg then !(p.2.any fun z => PyData.eqv z d) else p.2.any fun z => PyData.eqv z d)) else none
theorem Den.seq {H : Hp} {v : V} {d : Dat} {b : Bool} {l : List Dat} (h : Den K H v d) (e : seqOf d = some (b, l)) : ∃ a xs, v = .ref a ∧ (SqL K H a xs ∨ SqT K H a xs) ∧ Dens K H xs l := by
  obtain ⟨a, xs, q1, q2, q3⟩ := h.items (Evl.Ex.refl _) e
  refine ⟨a, xs, q1, ?_, q3⟩
  cases b with
  | true => exact .inl (.inl (by simpa using q2))
  | false => exact .inr (by simpa using q2)
theorem r2_in {neg : Bool} : R2M K (rIn K neg) (gSc (inD neg)) := r2_sc fun H x y d e z hx hy h => by
  unfold inD at h
  obtain ⟨⟨bb, l⟩, e1, h⟩ := bindE h
  obtain ⟨a, xs, rfl, q2, q3⟩ := hy.seq e1
  split at h
  · rename_i hs
    rw [Bool.and_eq_true] at hs
    cases h
    have e4 := inV_any hx hs.1 q3 hs.2
    refine ⟨_, rfl, fun Q q => ⟨a, xs, rfl, q2, flat_den hx hs.1, flat_dens q3 hs.2, ?_⟩⟩
    rw [e4]
    exact q
  · cases h
abbrev gIn := gSc (inD false)
abbrev gNin := gSc (inD true)
theorem d_in (ha : PE X a (tM X.K ma)) (hb : PE X b (tM X.K mb)) (hm : behindInMarks .In b = false := by rfl) : PE X (.Compare a [.In] [b] pos) (tM X.K (mBin gIn ma mb)) := d_cmp op_in_seq r2_in ha hb hm
theorem d_nin (ha : PE X a (tM X.K ma)) (hb : PE X b (tM X.K mb)) (hm : behindInMarks .NotIn b = false := by rfl) : PE X (.Compare a [.NotIn] [b] pos) (tM X.K (mBin gNin ma mb)) := d_cmp op_notIn_seq r2_in ha hb hm
theorem dt_in (ha : PE X a (tM X.K ma)) (hb : PE X b (tM X.K mb)) (hm : behindInMarks .In b = false := by rfl) : PT X (.Compare a [.In] [b] pos) (tT X.K (mB (mBin gIn ma mb))) := dt_cmp op_in_seq r2_in ha hb hm
theorem dt_nin (ha : PE X a (tM X.K ma)) (hb : PE X b (tM X.K mb)) (hm : behindInMarks .NotIn b = false := by rfl) : PT X (.Compare a [.NotIn] [b] pos) (tT X.K (mB (mBin gNin ma mb))) := dt_cmp op_notIn_seq r2_in ha hb hm
end
end DL

set_option Elab.async false
set_option linter.all false
set_option maxRecDepth 100000
set_option maxHeartbeats 4000000
namespace DL
open PySem L2
variable [TabsC]
/-- the largest size of what is built here -/
abbrev lim : Nat := 1000000
theorem lim_le : lim ≤ sizeLine := by decide
section
variable {X : Cx} {K : PySem.W.Frag} {a b c e : Expr} {ma mb mc : M} {mt mu : MT} {pos : Pos} {k : Nat}

/-! ### one operand -/
def mUn (g : Slot → Env → Option (Slot × Env)) (ma : M) : M := fun Γ => (ma Γ).bind fun p => g p.1 p.2
def R1M (K : PySem.W.Frag) (r : V → Hp → VK → Prop) (g : Slot → Env → Option (Slot × Env)) : Prop :=
  ∀ B Hf H σ Γ ps x s fp res Γ', Reach K B Hf H σ Γ (⟨x, s, fp⟩ :: ps) → g s Γ = some (res, Γ') →
    ∀ Q : VK, (∀ v fp Hf' H', Reach K B Hf' H' σ Γ' (⟨v, res, fp⟩ :: ps) → Q v H') → r x H Q
theorem un_imp {r : V → Hp → VK → Prop} {g : Slot → Env → Option (Slot × Env)} (hr : R1M K r g) {σ : St} {H : Hp} {Q : VK} (h : tM K (mUn g ma) σ H Q) : tUn r (tM K ma) σ H Q := by
  obtain ⟨B, Hf, Γ, ps, r, Γ', R, e, k⟩ := h
  obtain ⟨⟨s1, Γ1⟩, e1, e⟩ := bindE e
  exact ⟨B, Hf, Γ, ps, s1, Γ1, R, e1, fun x fp1 Hf1 H1 R1 => hr B Hf1 H1 σ Γ1 ps x s1 fp1 _ _ R1 e Q k⟩
def gSc1 (g : Dat → Option Dat) : Slot → Env → Option (Slot × Env) := fun s Γ => (viewD Γ s).bind fun d => (g d).bind fun z => some (.d z, Γ)
theorem r1_sc {r : V → Hp → VK → Prop} {g : Dat → Option Dat} (h : ∀ H x d z, Den K H x d → g d = some z → ∃ zv, scV z = some zv ∧ ∀ Q : VK, Q zv H → r x H Q) : R1M K r (gSc1 g) := by
  intro B Hf H σ Γ ps x s fp res Γ' ⟨f, R⟩ e Q k
  obtain ⟨d, e1, e⟩ := bindE e
  obtain ⟨z, e3, e⟩ := bindE e
  simp only [Option.some.injEq, Prod.mk.injEq] at e
  obtain ⟨rfl, rfl⟩ := e
  obtain ⟨zv, q1, q2⟩ := h H x d z (R.viewP (p := ⟨x, s, fp⟩) (by simp) e1) e3
  exact q2 Q (k zv [] Hf H ⟨f, R.pop.pushD (scV_den q1)⟩)
def negD : Dat → Option Dat
  | .int i => some (.int (-i))
  | _ => none
abbrev gNeg := gSc1 negD
theorem d_neg (ha : PE X a (tM X.K ma)) : PE X (.UnaryOp .USub a pos) (tM X.K (mUn gNeg ma)) :=
  PE.imp (pe_un un_neg ha) fun _ _ _ => un_imp (r1_sc fun H x d z hx h => by
    cases d <;> simp only [negD, Option.some.injEq, reduceCtorEq] at h
    subst h
    cases hx
    exact ⟨_, rfl, fun Q q => ⟨_, rfl, q⟩⟩)

/-! ### truth, and, or, not, if -/
def truD : Dat → Option Bool
  | .none => some false
  | .bool b => some b
  | .int i => some (i != 0)
  | .str x => if x.length ≤ lim then some ((x.length : Int) != 0) else none
  | .list l => some (!l.isEmpty)
  | .tuple l => some (!l.isEmpty)
  | _ => none
def mTru (ma : M) : MT := fun Γ => (ma Γ).bind fun p => (viewD p.2 p.1).bind fun d => (truD d).bind fun b => some (b, p.2)
theorem isEmpty_dens {H : Hp} {vs : List V} {ds : List Dat} (r : Dens K H vs ds) : (!vs.isEmpty) = !ds.isEmpty := by cases r <;> rfl
theorem truV_of {H : Hp} {v : V} {d : Dat} {b : Bool} (h : Den K H v d) (e : truD d = some b) : TruV K v H b := by
  cases h with
  | non => cases e; rfl
  | bl b => cases e; rfl
  | int i => cases e; rfl
  | str x =>
    simp only [truD] at e
    split at e
    · rename_i hl
      cases e
      exact ⟨Nat.le_trans hl lim_le, rfl⟩
    · cases e
  | lst s r => cases e; exact .inl ⟨_, .inl s, (isEmpty_dens r).symm⟩
  | tup s r => cases e; exact .inr (.inl ⟨_, SqT.of s, (isEmpty_dens r).symm⟩)
  | dct => cases e
  | dctT => cases e
theorem dt_tru (ha : PE X a (tM X.K ma)) (he : ∀ whole, isTrue a X.env whole = (do let v ← whole; standAt a.pos; holding [v] (truthy v)) := by intro _; rfl) : PT X a (tT X.K (mTru ma)) :=
  PT.imp (pt_truth ha he) fun σ H Q h => by
    obtain ⟨B, Hf, Γ, ps, r, Γ', R, e, k⟩ := h
    obtain ⟨⟨s1, Γ1⟩, e1, e⟩ := bindE e
    obtain ⟨d, e2, e⟩ := bindE e
    obtain ⟨bb, e3, e⟩ := bindE e
    simp only [Option.some.injEq, Prod.mk.injEq] at e
    obtain ⟨rfl, rfl⟩ := e
    refine ⟨B, Hf, Γ, ps, s1, Γ1, R, e1, fun x fp1 Hf1 H1 ⟨f, R1⟩ => ⟨bb, truV_of (R1.viewP (p := ⟨x, s1, fp1⟩) (by simp) e2) e3, k Hf1 H1 ⟨f, R1.pop⟩⟩⟩
def mAndT (mt mu : MT) : MT := fun Γ => (mt Γ).bind fun p => if p.1 then mu p.2 else some (false, p.2)
def mOrT (mt mu : MT) : MT := fun Γ => (mt Γ).bind fun p => if p.1 then some (true, p.2) else mu p.2
def mNotT (mt : MT) : MT := fun Γ => (mt Γ).bind fun p => some (!p.1, p.2)
theorem andT_imp {σ : St} {H : Hp} {Q : Bool → Hp → Prop} (h : tT K (mAndT mt mu) σ H Q) : tAnd (tT K mt) (tT K mu) σ H Q := by
  obtain ⟨B, Hf, Γ, ps, r, Γ', R, e, k⟩ := h
  obtain ⟨⟨b1, Γ1⟩, e1, e⟩ := bindE e
  refine ⟨B, Hf, Γ, ps, b1, Γ1, R, e1, fun Hf1 H1 R1 => ?_⟩
  cases b1 with
  | true => exact ⟨B, Hf1, Γ1, ps, r, Γ', R1, by simpa using e, k⟩
  | false =>
    simp only [Bool.false_eq_true, if_false, Option.some.injEq, Prod.mk.injEq] at e ⊢
    obtain ⟨rfl, rfl⟩ := e
    exact k Hf1 H1 R1
theorem orT_imp {σ : St} {H : Hp} {Q : Bool → Hp → Prop} (h : tT K (mOrT mt mu) σ H Q) : tOr (tT K mt) (tT K mu) σ H Q := by
  obtain ⟨B, Hf, Γ, ps, r, Γ', R, e, k⟩ := h
  obtain ⟨⟨b1, Γ1⟩, e1, e⟩ := bindE e
  refine ⟨B, Hf, Γ, ps, b1, Γ1, R, e1, fun Hf1 H1 R1 => ?_⟩
  cases b1 with
  | false => exact ⟨B, Hf1, Γ1, ps, r, Γ', R1, by simpa using e, k⟩
  | true =>
    simp only [if_true, Option.some.injEq, Prod.mk.injEq] at e ⊢
    obtain ⟨rfl, rfl⟩ := e
    exact k Hf1 H1 R1
variable {rest : List Expr}
theorem dw_and1 (ha : PT X a (tT X.K mt)) : PW X (.BoolOp .And [a] pos) (tT X.K mt) := pw_and1 ha
theorem dw_or1 (ha : PT X a (tT X.K mt)) : PW X (.BoolOp .Or [a] pos) (tT X.K mt) := pw_or1 ha
theorem dw_and (ha : PT X a (tT X.K mt)) (hb : PW X (.BoolOp .And (b :: rest) pos) (tT X.K mu)) : PW X (.BoolOp .And (a :: b :: rest) pos) (tT X.K (mAndT mt mu)) := PW.imp (pw_and ha hb) fun _ _ _ => andT_imp
theorem dw_or (ha : PT X a (tT X.K mt)) (hb : PW X (.BoolOp .Or (b :: rest) pos) (tT X.K mu)) : PW X (.BoolOp .Or (a :: b :: rest) pos) (tT X.K (mOrT mt mu)) := PW.imp (pw_or ha hb) fun _ _ _ => orT_imp
theorem dt_not (ha : PT X a (tT X.K mt)) : PT X (.UnaryOp .Not a pos) (tT X.K (mNotT mt)) := PT.imp (pt_not ha) fun σ H Q h => by
  obtain ⟨B, Hf, Γ, ps, r, Γ', R, e, k⟩ := h
  obtain ⟨⟨b1, Γ1⟩, e1, e⟩ := bindE e
  simp only [Option.some.injEq, Prod.mk.injEq] at e
  obtain ⟨rfl, rfl⟩ := e
  exact ⟨B, Hf, Γ, ps, b1, Γ1, R, e1, k⟩
/-- as values: bools ahead of the last -/
def mAndV (ma mb : M) : M := fun Γ => (mB ma Γ).bind fun p => if p.1 then mb p.2 else some (.d (.bool false), p.2)
def mOrV (ma mb : M) : M := fun Γ => (mB ma Γ).bind fun p => if p.1 then some (.d (.bool true), p.2) else mb p.2
def mNotV (ma : M) : M := fun Γ => (mB ma Γ).bind fun p => some (.d (.bool (!p.1)), p.2)
theorem d_one {op} (ha : PE X a (tM X.K ma)) : PE X (.BoolOp op [a] pos) (tM X.K ma) := pe_one ha
theorem mb_at {σ : St} {H : Hp} {B : Base} {Hf : Hp} {Γ Γ1 : Env} {ps : List Pend} {b1 : Bool} (R : Reach K B Hf H σ Γ ps) (e1 : mB ma Γ = some (b1, Γ1)) {T : V → Hp → Prop} (h : ∀ Hf1 H1, Reach K B Hf1 H1 σ Γ1 ps → T (.bl b1) H1) : tM K ma σ H T :=
  ⟨B, Hf, Γ, ps, _, Γ1, R, mB_some e1, fun x fp Hf1 H1 ⟨f, R1⟩ => by
    have q := (R1.pend _ List.mem_cons_self).2
    cases q
    exact h Hf1 H1 ⟨f, R1.pop⟩⟩
theorem d_and (ha : PE X a (tM X.K ma)) (hb : PE X (.BoolOp .And (b :: rest) pos) (tM X.K mb)) : PE X (.BoolOp .And (a :: b :: rest) pos) (tM X.K (mAndV ma mb)) := PE.imp (pe_and ha hb) fun σ H Q h => by
  obtain ⟨B, Hf, Γ, ps, r, Γ', R, e, k⟩ := h
  obtain ⟨⟨b1, Γ1⟩, e1, e⟩ := bindE e
  refine mb_at R e1 fun Hf1 H1 R1 => ⟨b1, rfl, ?_⟩
  cases b1 with
  | true => exact ⟨B, Hf1, Γ1, ps, r, Γ', R1, by simpa using e, k⟩
  | false =>
    simp only [Bool.false_eq_true, if_false, Option.some.injEq, Prod.mk.injEq] at e ⊢
    obtain ⟨rfl, rfl⟩ := e
    obtain ⟨f, R1⟩ := R1
    exact k (.bl false) [] Hf1 H1 ⟨f, R1.pushD (.bl _)⟩
theorem d_or (ha : PE X a (tM X.K ma)) (hb : PE X (.BoolOp .Or (b :: rest) pos) (tM X.K mb)) : PE X (.BoolOp .Or (a :: b :: rest) pos) (tM X.K (mOrV ma mb)) := PE.imp (pe_or ha hb) fun σ H Q h => by
  obtain ⟨B, Hf, Γ, ps, r, Γ', R, e, k⟩ := h
  obtain ⟨⟨b1, Γ1⟩, e1, e⟩ := bindE e
  refine mb_at R e1 fun Hf1 H1 R1 => ⟨b1, rfl, ?_⟩
  cases b1 with
  | false => exact ⟨B, Hf1, Γ1, ps, r, Γ', R1, by simpa using e, k⟩
  | true =>
    simp only [if_true, Option.some.injEq, Prod.mk.injEq] at e ⊢
    obtain ⟨rfl, rfl⟩ := e
    obtain ⟨f, R1⟩ := R1
    exact k (.bl true) [] Hf1 H1 ⟨f, R1.pushD (.bl _)⟩
theorem d_not (ha : PE X a (tM X.K ma)) : PE X (.UnaryOp .Not a pos) (tM X.K (mNotV ma)) := PE.imp (pe_not ha) fun σ H Q h => by
  obtain ⟨B, Hf, Γ, ps, r, Γ', R, e, k⟩ := h
  obtain ⟨⟨b1, Γ1⟩, e1, e⟩ := bindE e
  simp only [Option.some.injEq, Prod.mk.injEq] at e
  obtain ⟨rfl, rfl⟩ := e
  refine mb_at R e1 fun Hf1 H1 ⟨f, R1⟩ => ⟨b1, rfl, k (.bl (!b1)) [] Hf1 H1 ⟨f, R1.pushD (.bl _)⟩⟩
def mIf (mt : MT) (ma mb : M) : M := fun Γ => (mt Γ).bind fun p => if p.1 then ma p.2 else mb p.2
theorem d_if (hc : PT X c (tT X.K mt)) (ha : PE X a (tM X.K ma)) (hb : PE X b (tM X.K mb)) : PE X (.IfExp c a b pos) (tM X.K (mIf mt ma mb)) := PE.imp (pe_ifExp hc ha hb) fun σ H Q h => by
  obtain ⟨B, Hf, Γ, ps, r, Γ', R, e, k⟩ := h
  obtain ⟨⟨b1, Γ1⟩, e1, e⟩ := bindE e
  refine ⟨B, Hf, Γ, ps, b1, Γ1, R, e1, fun Hf1 H1 R1 => ?_⟩
  cases b1 with
  | true => exact ⟨B, Hf1, Γ1, ps, r, Γ', R1, by simpa using e, k⟩
  | false => exact ⟨B, Hf1, Γ1, ps, r, Γ', R1, by simpa using e, k⟩

/-! ### rows of values -/
def mD0 : MD := fun Γ => some ([], Γ)
def mDc (m : M) (mr : MD) : MD := fun Γ => (m Γ).bind fun p => (settle p.2 p.1).bind fun q => (mr q.2).bind fun t => some (q.1 :: t.1, t.2)
/-- *e -/
def mDs (m : M) (mr : MD) : MD := fun Γ => (m Γ).bind fun p => (settle p.2 p.1).bind fun q => (seqOf q.1).bind fun l => if l.2.length ≤ lim then (mr q.2).bind fun t => some (l.2 ++ t.1, t.2) else none
variable {es : List Expr} {mr : MD}
theorem da_nil : PA X [] (tAD X.K mD0) := PA.imp pa_nil fun σ H Q h => by
  obtain ⟨B, Hf, Γ, ps, r, Γ', R, e, k⟩ := h
  simp only [mD0, Option.some.injEq, Prod.mk.injEq] at e
  obtain ⟨rfl, rfl⟩ := e
  exact k [] Hf H .nil R
theorem da_cons (ha : PE X a (tM X.K ma)) (hr : PA X es (tAD X.K mr)) (hs : starEach (a :: es) X.env = (false, eval a X.env) :: starEach es X.env := by rfl) : PA X (a :: es) (tAD X.K (mDc ma mr)) := PA.imp (pa_cons ha hr hs) fun σ H Q h => by
  obtain ⟨B, Hf, Γ, ps, r, Γ', R, e, k⟩ := h
  obtain ⟨⟨s1, Γ1⟩, e1, e⟩ := bindE e
  obtain ⟨⟨d, Γ2⟩, e2, e⟩ := bindE e
  obtain ⟨⟨l, Γ3⟩, e3, e⟩ := bindE e
  simp only [Option.some.injEq, Prod.mk.injEq] at e
  obtain ⟨rfl, rfl⟩ := e
  refine ⟨B, Hf, Γ, ps, s1, Γ1, R, e1, fun x fp1 Hf1 H1 R1 => ?_⟩
  obtain ⟨Hf2, _, R2⟩ := R1.settle e2
  refine ⟨B, Hf2, Γ2, _, l, Γ3, R2, e3, fun vs Hf3 H3 dv ⟨f, R3⟩ => ?_⟩
  exact k (x :: vs) Hf3 H3 (.cons (R3.pend _ List.mem_cons_self).2 dv) ⟨f, R3.pop⟩
def tStar (K : PySem.W.Frag) (te : TE) (tr : TA) : TA := fun σ H Q => te σ H fun x H1 => ∃ p xs, x = .ref p ∧ (SqL K H1 p xs ∨ SqT K H1 p xs) ∧ tr σ H1 fun ys H2 => Q (xs ++ ys) H2
theorem pa_star {te : TE} {tr : TA} {sp : Pos} (ha : PE X a te) (hr : PA X es tr) (hs : starEach (.Starred a sp :: es) X.env = (true, eval a X.env) :: starEach es X.env := by rfl) : PA X (.Starred a sp :: es) (tStar X.K te tr) := by
  refine ⟨fun pos pins s σ H Q I h => ?_⟩
  refine PySem.W.items_star (thn (ha.run pins s σ H _ I h) fun u s1 ⟨x, H1, I1, r1, q1⟩ => ?_) hs
  obtain ⟨p, xs, rfl, hq, q1⟩ := q1
  obtain rfl : u = Value.ref p := r1
  have go : ∀ (its : List Value) (T : String) (o : Obj) (n : Nat), Vals xs its → xs.length ≤ sizeLine → s1.heap.get? p = some o → o.cls = .type T → o.data = .seq its.toArray n → T = "list" ∨ T = "tuple" →
      PySem.W.StarOf (model X.prog X.w) X.A X.xe (.ref p) (fun here s₂ => wpAny (model X.prog X.w) X.A (spliced (backTo pos (starEach es X.env))) (fun vs s₃ => AP X pins σ Q (here ++ vs) s₃) X.xe s₂) s1 := by
    intro its T o n rv hz ho hc hd hT
    have hT' : s1.TypeIs (.ref p) T := ⟨o, ho, hc⟩
    have z : wpAny (model X.prog X.w) X.A (collect (.ref p)) (fun here s₂ => wpAny (model X.prog X.w) X.A (spliced (backTo pos (starEach es X.env))) (fun vs s₃ => AP X pins σ Q (here ++ vs) s₃) X.xe s₂) X.xe s1 := by
      refine wpAny_collect_seq p hT ho hc hd (fun h' hk => ?_) (by rw [List.size_toArray, ← rv.length]; exact hz)
      have I2 : Inv X pins σ H1 { s1 with heap := h' } := I1.kept (t' := s1.toks) hk
      refine thn (hr.run pos pins _ σ H1 _ I2 q1) fun us s2 ⟨ys, H2, I3, r2, q2⟩ => ⟨xs ++ ys, H2, I3, ?_, q2⟩
      exact (by simpa using rv : Vals xs its.toArray.toList).append r2
    unfold PySem.W.StarOf notIterableAtAll
    rcases hT with rfl | rfl
    · exact wpAny_bind (wpAny_specialOf hT' PySem.F.slot_list_iter.lookup (wpAny_pure ⟨rfl, z⟩))
    · exact wpAny_bind (wpAny_specialOf hT' PySem.F.slot_tuple_iter.lookup (wpAny_pure ⟨rfl, z⟩))
  rcases hq with hq | hq
  · obtain ⟨its, rv, ⟨o, n, e1, e2, e3, e4⟩, hz⟩ := I1.list hq
    exact go its "list" o n rv hz e1 e2 e4 (.inl rfl)
  · obtain ⟨its, rv, ⟨o, e1, e2, n, e4⟩, hz⟩ := I1.tuple hq
    exact go its "tuple" o n rv hz e1 e2 e4 (.inr rfl)
theorem da_star {sp : Pos} (ha : PE X a (tM X.K ma)) (hr : PA X es (tAD X.K mr)) (hs : starEach (.Starred a sp :: es) X.env = (true, eval a X.env) :: starEach es X.env := by rfl) : PA X (.Starred a sp :: es) (tAD X.K (mDs ma mr)) := PA.imp (pa_star ha hr hs) fun σ H Q h => by
  obtain ⟨B, Hf, Γ, ps, r, Γ', R, e, k⟩ := h
  obtain ⟨⟨s1, Γ1⟩, e1, e⟩ := bindE e
  obtain ⟨⟨d, Γ2⟩, e2, e⟩ := bindE e
  obtain ⟨⟨bb, l⟩, e3, e⟩ := bindE e
  simp only at e
  split at e
  · rename_i hl
    obtain ⟨⟨l2, Γ3⟩, e4, e⟩ := bindE e
    simp only [Option.some.injEq, Prod.mk.injEq] at e
    obtain ⟨rfl, rfl⟩ := e
    refine ⟨B, Hf, Γ, ps, s1, Γ1, R, e1, fun x fp1 Hf1 H1 R1 => ?_⟩
    obtain ⟨Hf2, _, f2, R2⟩ := R1.settle e2
    obtain ⟨p, xs, rfl, q2, q3⟩ := R2.itemsP (p := ⟨x, .d d, []⟩) (by simp) rfl e3
    refine ⟨p, xs, rfl, ?_, _, Hf2, Γ2, [], l2, Γ3, ⟨f2, R2.base⟩, e4, fun vs Hf3 H3 dv ⟨f, R3⟩ => ?_⟩
    · cases bb with
      | true => exact .inl (.inl (by simpa using q2))
      | false => exact .inr (by simpa using q2)
    · exact k (xs ++ vs) Hf3 H3 ((q3.mono R3.ex).append dv) ⟨f, (R2.trans R3 (.inr rfl)).pop⟩
  · cases e
end
end DL

set_option Elab.async false
set_option linter.all false
set_option maxRecDepth 100000
set_option maxHeartbeats 4000000
namespace DL
open PySem L2
variable [TabsC]
section
variable {X : Cx} {K : PySem.W.Frag} {a b c e : Expr} {ma mb mc : M} {mt mu : MT} {md : MD} {pos : Pos} {k : Nat} {es : List Expr}

/-! ### displays -/
def mTup (md : MD) : M := fun Γ => (md Γ).bind fun p => if p.1.length ≤ lim then some (.d (.tuple p.1), p.2) else none
def mLst (md : MD) : M := fun Γ => (md Γ).bind fun p => if p.1.length ≤ lim then some (.own (.lst p.1), p.2) else none
theorem d_tup {x1} (h : PA X es (tAD X.K md)) : PE X (.Tuple es x1 pos) (tM X.K (mTup md)) := PE.imp (pe_tup h) fun σ H Q h => by
  obtain ⟨B, Hf, Γ, ps, r, Γ', R, e, k⟩ := h
  obtain ⟨⟨l, Γ1⟩, e1, e⟩ := bindE e
  simp only at e
  split at e
  · rename_i hl
    simp only [Option.some.injEq, Prod.mk.injEq] at e
    obtain ⟨rfl, rfl⟩ := e
    refine ⟨B, Hf, Γ, ps, l, Γ1, R, e1, fun vs Hf1 H1 dv ⟨f, R1⟩ => ⟨?_, fun p hp => k _ _ _ _ ⟨f, R1.newT hp dv⟩⟩⟩
    rw [dv.length]; exact Nat.le_trans hl lim_le
  · cases e
theorem d_lst (h : PA X es (tAD X.K md)) : PE X (.List es pos) (tM X.K (mLst md)) := PE.imp (pe_lst h) fun σ H Q h => by
  obtain ⟨B, Hf, Γ, ps, r, Γ', R, e, k⟩ := h
  obtain ⟨⟨l, Γ1⟩, e1, e⟩ := bindE e
  simp only at e
  split at e
  · rename_i hl
    simp only [Option.some.injEq, Prod.mk.injEq] at e
    obtain ⟨rfl, rfl⟩ := e
    refine ⟨B, Hf, Γ, ps, l, Γ1, R, e1, fun vs Hf1 H1 dv ⟨f, R1⟩ => ⟨?_, fun p hp => k _ _ _ _ ⟨f, R1.newL hp dv⟩⟩⟩
    rw [dv.length]; exact Nat.le_trans hl lim_le
  · cases e
def mDict0 : M := fun Γ => some (.own (.dct []), Γ)
theorem d_dict0 : PE X (.Dict [] [] pos) (tM X.K mDict0) := PE.imp pe_dnewK fun σ H Q h => by
  obtain ⟨B, Hf, Γ, ps, r, Γ', ⟨f, R⟩, e, k⟩ := h
  simp only [mDict0, Option.some.injEq, Prod.mk.injEq] at e
  obtain ⟨rfl, rfl⟩ := e
  exact fun p hp => k _ _ _ _ ⟨f, R.newD hp .nil⟩

/-! ### + of ints, texts, lists, tuples -/
theorem tupF {B : Base} {Hf H : Hp} {σ : St} {Γ : Env} {f : Nat → List Addr} {ps : List Pend} {p : Pend} {l : List Dat} (R : ReachF K B Hf H σ Γ f ps) (hp : p ∈ ps) (e : viewD Γ p.s = some (.tuple l)) : Den K Hf p.v (.tuple l) := by
  have q := R.pend p hp
  obtain ⟨v, s, fp⟩ := p
  cases s with
  | d z => cases e; exact q.2
  | own o => cases o <;> cases e
  | bor i =>
    simp only [viewD] at e
    split at e
    · rename_i o ho; cases o <;> cases e
    · rename_i z hz
      cases e
      obtain ⟨_, w, e5, q5⟩ := R.slot i _ hz
      rw [q.2] at e5
      cases e5
      exact q5
    · cases e
  | _ => cases e
def rCatR : R2 := fun x y H Q => ∃ l b xs zs, x = .ref l ∧ y = .ref b ∧ Rd H l (.lst xs) ∧ Rd H b (.lst zs) ∧ xs.length + zs.length ≤ sizeLine ∧ ∀ p, H p = none → Q (.ref p) (upd H p (.lst (xs ++ zs)))
theorem lstR {pins : List (Addr × Obj)} {σ : St} {H : Hp} {s : Shared} {l : Addr} {xs : List V} (I : Inv X pins σ H s) (hH : Rd H l (.lst xs)) : xs.length ≤ sizeLine ∧ ∃ (its : List Value) (n : Nat), Vals xs its ∧ xs.length = its.length ∧ s.heap.get? l = some { cls := .type "list", data := .seq its.toArray n } := by
  obtain ⟨z, its, n, r, e⟩ := hH.ok I.hok
  exact ⟨z, its, n, r, r.length, e⟩
theorem op_catR : OpR X (binaryOp .Add) rCatR := by
  intro pins s σ H x y v u Q I rx ry h
  obtain ⟨l, b, xs, zs, rfl, rfl, hH, hB, hz, q⟩ := h
  cases rx
  cases ry
  obtain ⟨z, its, n, r, hl, e⟩ := lstR I hH
  obtain ⟨z2, its2, n2, r2, hl2, e2⟩ := lstR I hB
  refine PySem.P.add_list e e2 ?_ (by rw [List.size_toArray, List.size_toArray]; omega)
  have ea : its.toArray ++ its2.toArray = (its ++ its2).toArray := by simp
  rw [ea]
  exact ⟨.ref _, _, I.lnew (t' := s.toks) (r.append r2) (by rw [List.length_append]; omega), rfl, q _ I.fresh⟩
def rStrCat : R2 := fun x y H Q => ∃ i j, x = .str i ∧ y = .str j ∧ i.length + j.length ≤ sizeLine ∧ Q (.str (i ++ j)) H
def rAddD (K : PySem.W.Frag) : R2 := fun x y H Q => rI0 (fun i j => .int (i + j)) x y H Q ∨ rStrCat x y H Q ∨ rCatR x y H Q ∨ rCatA K x y H Q
theorem op_addD : OpR X (binaryOp .Add) (rAddD X.K) := op_add.or (op_add_str.or (op_catR.or op_catA))
def gAdd : Slot → Slot → Env → Option (Slot × Env) := fun s1 s2 Γ => (viewD Γ s1).bind fun d => (viewD Γ s2).bind fun e => match d, e with
  | .int i, .int j => some (.d (.int (i + j)), Γ)
  | .str x, .str y => if x.length + y.length ≤ lim then some (.d (.str (x ++ y)), Γ) else none
  | .list l, .list l2 => if l.length + l2.length ≤ lim then some (.own (.lst (l ++ l2)), Γ) else none
  | .tuple l, .tuple l2 => if l.length + l2.length ≤ lim then some (.d (.tuple (l ++ l2)), Γ) else none
  | _, _ => none
theorem r2_add : R2M K (rAddD K) gAdd := by
  intro B Hf H σ Γ ps x y s1 s2 fp1 fp2 res Γ' ⟨f, R⟩ e Q k
  obtain ⟨d, e1, e⟩ := bindE e
  obtain ⟨d2, e2, e⟩ := bindE e
  have v1 := R.viewP (p := ⟨x, s1, fp1⟩) (by simp) e1
  have v2 := R.viewP (p := ⟨y, s2, fp2⟩) (by simp) e2
  have R0 := R.pop.pop
  cases d <;> cases d2 <;> simp only [reduceCtorEq] at e
  · -- ints
    simp only [Option.some.injEq, Prod.mk.injEq] at e
    obtain ⟨rfl, rfl⟩ := e
    cases v1
    cases v2
    exact .inl ⟨_, _, rfl, rfl, k _ [] Hf H ⟨f, R0.pushD (.int _)⟩⟩
  · split at e
    · rename_i hl
      simp only [Option.some.injEq, Prod.mk.injEq] at e
      obtain ⟨rfl, rfl⟩ := e
      cases v1
      cases v2
      exact .inr (.inl ⟨_, _, rfl, rfl, Nat.le_trans hl lim_le, k _ [] Hf H ⟨f, R0.pushD (.str _)⟩⟩)
    · cases e
  · split at e
    · rename_i hl
      simp only [Option.some.injEq, Prod.mk.injEq] at e
      obtain ⟨rfl, rfl⟩ := e
      obtain ⟨a1, xs, h1, q1, dx⟩ := R.itemsP (p := ⟨x, s1, fp1⟩) (by simp) e1 rfl
      obtain ⟨a2, ys, h2, q2, dy⟩ := R.itemsP (p := ⟨y, s2, fp2⟩) (by simp) e2 rfl
      exact .inr (.inr (.inl ⟨a1, a2, xs, ys, h1, h2, q1, q2, by rw [dx.length, dy.length]; exact Nat.le_trans hl lim_le, fun p hp => k _ _ _ _ ⟨f, R0.newL hp (dx.append dy)⟩⟩))
    · cases e
  · split at e
    · rename_i hl
      simp only [Option.some.injEq, Prod.mk.injEq] at e
      obtain ⟨rfl, rfl⟩ := e
      obtain ⟨a1, xs, h1, q1, dx⟩ := R.itemsP (p := ⟨x, s1, fp1⟩) (by simp) e1 rfl
      obtain ⟨a2, ys, h2, q2, dy⟩ := R.itemsP (p := ⟨y, s2, fp2⟩) (by simp) e2 rfl
      simp only at h1 h2
      have f1 := tupF R (p := ⟨x, s1, fp1⟩) (by simp) e1
      have f2 := tupF R (p := ⟨y, s2, fp2⟩) (by simp) e2
      subst h1 h2
      refine .inr (.inr (.inr ⟨a1, a2, xs, ys, rfl, rfl, q1, q2, by rw [dx.length, dy.length]; exact Nat.le_trans hl lim_le, fun hx => ?_, fun hx hy => ?_, fun _ _ p hp => k _ _ _ _ ⟨f, R0.newT hp (dx.append dy)⟩⟩))
      · subst hx
        cases dx
        exact k _ [] Hf H ⟨f, R0.pushD f2⟩
      · subst hy
        cases dy
        rw [List.append_nil] at k
        exact k _ [] Hf H ⟨f, R0.pushD f1⟩
    · cases e
theorem d_add (ha : PE X a (tM X.K ma)) (hb : PE X b (tM X.K mb)) : PE X (.BinOp a .Add b pos) (tM X.K (mBin gAdd ma mb)) := d_op op_addD r2_add ha hb
/-! * of ints, of a tuple and an int -/
def mulC (i j : Int) : Bool := (decide (-(2 ^ 64) < i) && decide (i < 2 ^ 64)) || (decide (-(2 ^ 64) < j) && decide (j < 2 ^ 64))
def gMul : Slot → Slot → Env → Option (Slot × Env) := fun s1 s2 Γ => (viewD Γ s1).bind fun d => (viewD Γ s2).bind fun e => match d, e with
  | .int i, .int j => if mulC i j then some (.d (.int (i * j)), Γ) else none
  | .tuple l, .int j => if l ≠ [] ∧ 2 ≤ j ∧ j ≤ 1000 ∧ l.length ≤ 1000 then some (.d (.tuple (List.replicate j.toNat l).flatten), Γ) else none
  | _, _ => none
def rMulD (K : PySem.W.Frag) : R2 := fun x y H Q => rI CMul (fun i j => .int (i * j)) x y H Q ∨ rRepT K x y H Q
theorem op_mulD : OpR X (binaryOp .Mult) (rMulD X.K) := op_mul.or op_repT
theorem Dens.rep {H : Hp} {vs : List V} {ds : List Dat} (r : Dens K H vs ds) : ∀ n, Dens K H (List.replicate n vs).flatten (List.replicate n ds).flatten
  | 0 => .nil
  | n + 1 => by
    rw [List.replicate_succ, List.replicate_succ, List.flatten_cons, List.flatten_cons]
    exact r.append (Dens.rep r n)
theorem r2_mul : R2M K (rMulD K) gMul := by
  intro B Hf H σ Γ ps x y s1 s2 fp1 fp2 res Γ' ⟨f, R⟩ e Q k
  obtain ⟨d, e1, e⟩ := bindE e
  obtain ⟨d2, e2, e⟩ := bindE e
  have v1 := R.viewP (p := ⟨x, s1, fp1⟩) (by simp) e1
  have v2 := R.viewP (p := ⟨y, s2, fp2⟩) (by simp) e2
  have R0 := R.pop.pop
  cases d <;> cases d2 <;> simp only [reduceCtorEq] at e
  · split at e
    · rename_i hl
      simp only [Option.some.injEq, Prod.mk.injEq] at e
      obtain ⟨rfl, rfl⟩ := e
      cases v1
      cases v2
      refine .inl ⟨_, _, rfl, rfl, ?_, k _ [] Hf H ⟨f, R0.pushD (.int _)⟩⟩
      simp only [mulC, Bool.or_eq_true, Bool.and_eq_true, decide_eq_true_eq] at hl
      exact hl
    · cases e
  · split at e
    · rename_i hl
      simp only [Option.some.injEq, Prod.mk.injEq] at e
      obtain ⟨rfl, rfl⟩ := e
      obtain ⟨a1, xs, h1, q1, dx⟩ := R.itemsP (p := ⟨x, s1, fp1⟩) (by simp) e1 rfl
      cases v2
      refine .inr ⟨a1, _, xs, h1, rfl, q1, fun z => hl.1 ?_, hl.2.1, hl.2.2.1, by rw [dx.length]; exact hl.2.2.2, fun p hp => k _ _ _ _ ⟨f, R0.newT hp (dx.rep _)⟩⟩
      subst z; cases dx; rfl
    · cases e
theorem d_mul (ha : PE X a (tM X.K ma)) (hb : PE X b (tM X.K mb)) : PE X (.BinOp a .Mult b pos) (tM X.K (mBin gMul ma mb)) := d_op op_mulD r2_mul ha hb

/-! ### items and slices -/
theorem Dens.at {H : Hp} {vs : List V} {ds : List Dat} {i : Int} {d : Dat} (r : Dens K H vs ds) (h : atI ds i = some d) : ∃ v, atI vs i = some v ∧ Den K H v d := by
  unfold atI at h ⊢
  rw [r.length]
  cases e : ixN ds.length i with
  | none => rw [e] at h; cases h
  | some j =>
    rw [e] at h
    obtain ⟨v, q1, q2⟩ := r.getD (show ds[j]? = some d from h)
    exact ⟨v, q1, q2⟩
def gIx : Slot → Slot → Env → Option (Slot × Env) := fun s1 s2 Γ => (viewD Γ s1).bind fun d => (seqOf d).bind fun p => (viewD Γ s2).bind fun e => match e with
  | .int i => (atI p.2 i).bind fun z => some (.d z, Γ)
  | _ => none
def rIxLT (K : PySem.W.Frag) : R2 := fun x y H Q => rIxL K x y H Q ∨ rIxT K x y H Q
theorem r2_ix : R2M K (rIxLT K) gIx := by
  intro B Hf H σ Γ ps x y s1 s2 fp1 fp2 res Γ' ⟨f, R⟩ e Q k
  obtain ⟨d, e1, e⟩ := bindE e
  obtain ⟨⟨bb, l⟩, e2, e⟩ := bindE e
  obtain ⟨d2, e3, e⟩ := bindE e
  cases d2 <;> simp only [reduceCtorEq] at e
  obtain ⟨z, e4, e⟩ := bindE e
  simp only [Option.some.injEq, Prod.mk.injEq] at e
  obtain ⟨rfl, rfl⟩ := e
  obtain ⟨a1, xs, h1, q1, dx⟩ := R.itemsP (p := ⟨x, s1, fp1⟩) (by simp) e1 e2
  have v2 := R.viewP (p := ⟨y, s2, fp2⟩) (by simp) e3
  simp only at v2
  cases v2
  obtain ⟨v, e5, q5⟩ := dx.at e4
  have fin := k v [] Hf H ⟨f, R.pop.pop.pushD q5⟩
  cases bb with
  | true => exact .inl ⟨a1, xs, _, v, h1, rfl, .inl (by simpa using q1), e5, fin⟩
  | false => exact .inr ⟨a1, xs, _, v, h1, rfl, by simpa using q1, e5, fin⟩
theorem d_ix (ha : PE X a (tM X.K ma)) (hb : PE X b (tM X.K mb)) (hs : PlainIx b := by exact fun _ _ => rfl) : PE X (.Subscript a b pos) (tM X.K (mBin gIx ma mb)) :=
  PE.imp (pe_ix (ix_list.or ix_tup) ha hb hs) fun _ _ _ => op_imp r2_ix
def cutL {α : Type} (xs : List α) (lo hi : Option Int) : List α := (xs.drop (HT.sIx xs.length 0 lo)).take (HT.sIx xs.length xs.length hi - HT.sIx xs.length 0 lo)
theorem Dens.cut {H : Hp} {vs : List V} {ds : List Dat} (r : Dens K H vs ds) (lo hi : Option Int) : Dens K H (cutV vs lo hi) (cutL ds lo hi) := by
  unfold cutV cutL
  rw [r.length]
  exact (r.drop _).take _
abbrev MO := Env → Option (Option Int × Env)
def tO (K : PySem.W.Frag) (m : MO) : TO := fun σ H Q => ∃ B Hf Γ ps r Γ', Reach K B Hf H σ Γ ps ∧ m Γ = some (r, Γ') ∧ ∀ Hf' H', Reach K B Hf' H' σ Γ' ps → Q r H'
def mO0 : MO := fun Γ => some (none, Γ)
def mO1 (m : M) : MO := fun Γ => (m Γ).bind fun p => match p.1 with
  | .d (.int i) => some (some i, p.2)
  | _ => none
theorem do_none : PO X none (tO X.K mO0) := ⟨fun pins s σ H Q I h => by
  obtain ⟨B, Hf, Γ, ps, r, Γ', R, e, k⟩ := h
  simp only [mO0, Option.some.injEq, Prod.mk.injEq] at e
  obtain ⟨rfl, rfl⟩ := e
  exact po_none.run pins s σ H Q I (k Hf H R)⟩
theorem do_some (ha : PE X a (tM X.K ma)) : PO X (some a) (tO X.K (mO1 ma)) := ⟨fun pins s σ H Q I h => by
  obtain ⟨B, Hf, Γ, ps, r, Γ', R, e, k⟩ := h
  obtain ⟨⟨s1, Γ1⟩, e1, e⟩ := bindE e
  refine (po_some ha).run pins s σ H Q I ⟨B, Hf, Γ, ps, s1, Γ1, R, e1, fun v fp Hf' H' ⟨f, R'⟩ => ?_⟩
  revert e
  cases s1 with
  | d x =>
    cases x <;> intro e <;> simp only [Option.some.injEq, Prod.mk.injEq, reduceCtorEq] at e
    obtain ⟨rfl, rfl⟩ := e
    have q := (R'.pend _ List.mem_cons_self).2
    cases q
    exact ⟨_, rfl, k Hf' H' ⟨f, R'.pop⟩⟩
  | _ => intro e; cases e⟩
def mSl (ma : M) (ml mh : MO) : M := fun Γ => (ma Γ).bind fun p => (ml p.2).bind fun q => (mh q.2).bind fun t => (viewD t.2 p.1).bind fun d => match d with
  | .list l => if l.length ≤ lim then some (.own (.lst (cutL l q.1 t.1)), t.2) else none
  | .tuple l => some (.d (.tuple (cutL l q.1 t.1)), t.2)
  | _ => none
def rSlD (K : PySem.W.Frag) : V → Option Int → Option Int → Hp → VK → Prop := fun x lo hi H Q => rSlL K x lo hi H Q ∨ rSlA K x lo hi H Q
variable {lo hi : Option Expr} {ml mh : MO} {p2 : Pos}
theorem cut_all {α : Type} {l : List α} {lo hi : Option Int} (h1 : HT.sIx l.length 0 lo = 0) (h2 : HT.sIx l.length l.length hi = l.length) : cutL l lo hi = l := by
  unfold cutL
  rw [h1, h2]
  simp
theorem d_sl (ha : PE X a (tM X.K ma)) (hl : PO X lo (tO X.K ml)) (hh : PO X hi (tO X.K mh)) : PE X (.Subscript a (.Slice lo hi none p2) pos) (tM X.K (mSl ma ml mh)) :=
  PE.imp (pe_slice (sl_list.or sl_tupA) ha hl hh) fun σ H Q h => by
    obtain ⟨B, Hf, Γ, ps, r, Γ', R, e, k⟩ := h
    obtain ⟨⟨s1, Γ1⟩, e1, e⟩ := bindE e
    obtain ⟨⟨o1, Γ2⟩, e2, e⟩ := bindE e
    obtain ⟨⟨o2, Γ3⟩, e3, e⟩ := bindE e
    obtain ⟨d, e4, e⟩ := bindE e
    refine ⟨B, Hf, Γ, ps, s1, Γ1, R, e1, fun x fp1 Hf1 H1 R1 => ⟨B, Hf1, Γ1, _, o1, Γ2, R1, e2, fun Hf2 H2 R2 => ⟨B, Hf2, Γ2, _, o2, Γ3, R2, e3, fun Hf3 H3 ⟨f, R3⟩ => ?_⟩⟩⟩
    cases d <;> simp only [reduceCtorEq] at e
    · split at e
      · rename_i hz
        simp only [Option.some.injEq, Prod.mk.injEq] at e
        obtain ⟨rfl, rfl⟩ := e
        obtain ⟨a1, xs, h1, q1, dx⟩ := R3.itemsP (p := ⟨x, s1, fp1⟩) (by simp) e4 rfl
        exact .inl ⟨a1, xs, h1, .inl (by simpa using q1), fun p hp => k _ _ _ _ ⟨f, R3.pop.newL hp (dx.cut _ _)⟩⟩
      · cases e
    · simp only [Option.some.injEq, Prod.mk.injEq] at e
      obtain ⟨rfl, rfl⟩ := e
      have fd := tupF R3 (p := ⟨x, s1, fp1⟩) (by simp) e4
      obtain ⟨a1, xs, h1, q1, dx⟩ := R3.itemsP (p := ⟨x, s1, fp1⟩) (by simp) e4 rfl
      refine .inr ⟨a1, xs, h1, by simpa using q1, fun hw => ?_, fun _ p hp => k _ _ _ _ ⟨f, R3.pop.newT hp (dx.cut _ _)⟩⟩
      rw [dx.length] at hw
      rw [cut_all hw.1 hw.2] at k
      simp only at h1 fd
      rw [← h1]
      exact k x [] Hf3 H3 ⟨f, R3.pop.pushD fd⟩

/-! ### built-ins of one argument -/
variable {es : List Expr} {p : Pos} {r : List V → Hp → VK → Prop} {g : Slot → Env → Option (Slot × Env)}
theorem cb_imp (hr : R1M K (fun x => r [x]) g) {σ : St} {H : Hp} {Q : VK} (h : tM K (mUn g ma) σ H Q) : tCB r (tCons (tM K ma) tNil) σ H Q := un_imp (r := fun x => r [x]) hr h
def intsOf : List Dat → Option (List Int)
  | [] => some []
  | .int i :: r => (intsOf r).map (i :: ·)
  | _ => none
def boolsOf : List Dat → Option (List Bool)
  | [] => some []
  | .bool i :: r => (boolsOf r).map (i :: ·)
  | _ => none
theorem intsOf_eq : ∀ {l : List Dat} {ns : List Int}, intsOf l = some ns → l = ns.map PyData.int
  | [], ns, h => by cases h; rfl
  | d :: r, ns, h => by
    cases d <;> simp only [intsOf, reduceCtorEq, Option.map_eq_some_iff] at h
    obtain ⟨m, h1, rfl⟩ := h
    rw [List.map_cons, ← intsOf_eq h1]
theorem boolsOf_eq : ∀ {l : List Dat} {ns : List Bool}, boolsOf l = some ns → l = ns.map PyData.bool
  | [], ns, h => by cases h; rfl
  | d :: r, ns, h => by
    cases d <;> simp only [boolsOf, reduceCtorEq, Option.map_eq_some_iff] at h
    obtain ⟨m, h1, rfl⟩ := h
    rw [List.map_cons, ← boolsOf_eq h1]
theorem intsOf_map (ns : List Int) : intsOf (ns.map PyData.int) = some ns := by
  induction ns with
  | nil => rfl
  | cons n r ih => rw [List.map_cons, intsOf, ih]; rfl
theorem boolsOf_map (ns : List Bool) : boolsOf (ns.map PyData.bool) = some ns := by
  induction ns with
  | nil => rfl
  | cons n r ih => rw [List.map_cons, boolsOf, ih]; rfl
def lenD : Dat → Option Dat
  | .list l => some (.int l.length)
  | .tuple l => some (.int l.length)
  | .str x => if x.length ≤ lim then some (.int x.length) else none
  | _ => none
def absD : Dat → Option Dat
  | .int i => some (.int (if i < 0 then -i else i))
  | _ => none
def intD : Dat → Option Dat
  | .int i => some (.int i)
  | .bool b => some (.int (if b then 1 else 0))
  | _ => none
def sumD : Dat → Option Dat
  | .list l => (intsOf l).map fun ns => .int ns.sum
  | _ => none
def allD : Dat → Option Dat
  | .list l => (boolsOf l).map fun ns => .bool (ns.all id)
  | _ => none
def anyD : Dat → Option Dat
  | .list l => (boolsOf l).map fun ns => .bool (ns.any id)
  | _ => none
theorem d_len (ha : PE X a (tM X.K ma)) (hm : X.mg "len" = none) (hg : Gl X "len" := by rfl) (h1 : starEach [a] X.env = (false, eval a X.env) :: starEach [] X.env := by rfl) : PE X (.Call (.Name "len" p) [a] [] pos) (tM X.K (mUn (gSc1 lenD) ma)) :=
  PE.imp (pe_callB (call_len_seq.or call_len_str) hg hm PySem.boot_len (pa_cons ha pa_nil h1) (he := h1)) fun σ H Q h => cb_imp (r1_sc fun H x d z hx h => by
    cases hx <;> simp only [lenD, Option.some.injEq, reduceCtorEq] at h
    · split at h
      · rename_i hl
        cases h
        exact ⟨_, rfl, fun Q q => .inr ⟨_, rfl, Nat.le_trans hl lim_le, q⟩⟩
      · cases h
    · rename_i s r
      subst h
      exact ⟨_, rfl, fun Q q => .inl ⟨_, _, rfl, .inl (.inl s), by rw [r.length]; exact q⟩⟩
    · rename_i s r
      subst h
      exact ⟨_, rfl, fun Q q => .inl ⟨_, _, rfl, .inr (SqT.of s), by rw [r.length]; exact q⟩⟩) h
theorem d_abs (ha : PE X a (tM X.K ma)) (hm : X.mg "abs" = none) (hg : Gl X "abs" := by rfl) (h1 : starEach [a] X.env = (false, eval a X.env) :: starEach [] X.env := by rfl) : PE X (.Call (.Name "abs" p) [a] [] pos) (tM X.K (mUn (gSc1 absD) ma)) :=
  PE.imp (pe_callB call_abs hg hm (by decide +kernel) (pa_cons ha pa_nil h1) (he := h1)) fun σ H Q h => cb_imp (r1_sc fun H x d z hx h => by
    cases hx <;> simp only [absD, Option.some.injEq, reduceCtorEq] at h
    subst h
    exact ⟨_, rfl, fun Q q => ⟨_, rfl, q⟩⟩) h
theorem d_intc (ha : PE X a (tM X.K ma)) (hm : X.mg "int" = none) (hg : Gl X "int" := by rfl) (h1 : starEach [a] X.env = (false, eval a X.env) :: starEach [] X.env := by rfl) : PE X (.Call (.Name "int" p) [a] [] pos) (tM X.K (mUn (gSc1 intD) ma)) :=
  PE.imp (pe_callTy call_int1 hg hm (by decide +kernel) (pa_cons ha pa_nil h1) (he := h1)) fun σ H Q h => cb_imp (r1_sc fun H x d z hx h => by
    cases hx <;> simp only [intD, Option.some.injEq, reduceCtorEq] at h
    · subst h
      exact ⟨_, rfl, fun Q q => .inr ⟨_, rfl, q⟩⟩
    · subst h
      exact ⟨_, rfl, fun Q q => .inl ⟨_, rfl, q⟩⟩) h
variable {kk : Nat}
theorem d_sum (c : Cok kk X) (ha : PE X a (tM X.K ma)) (hm : X.mg "sum" = none) (hg : Gl X "sum" := by rfl) (h1 : starEach [a] X.env = (false, eval a X.env) :: starEach [] X.env := by rfl) : PE X (.Call (.Name "sum" p) [a] [] pos) (tM X.K (mUn (gSc1 sumD) ma)) :=
  PE.imp (pe_callB (cr_sum c.calm) hg hm (by decide +kernel) (pa_cons ha pa_nil h1) (he := h1)) fun σ H Q h => cb_imp (r1_sc fun H x d z hx h => by
    cases hx <;> simp only [sumD, reduceCtorEq, Option.map_eq_some_iff] at h
    rename_i s r
    obtain ⟨ns, e, rfl⟩ := h
    rw [intsOf_eq e] at r
    rw [r.ints] at s
    exact ⟨_, rfl, fun Q q => ⟨_, ns, rfl, .inl s, q⟩⟩) h
theorem d_all (c : Cok kk X) (ha : PE X a (tM X.K ma)) (hm : X.mg "all" = none) (hg : Gl X "all" := by rfl) (h1 : starEach [a] X.env = (false, eval a X.env) :: starEach [] X.env := by rfl) : PE X (.Call (.Name "all" p) [a] [] pos) (tM X.K (mUn (gSc1 allD) ma)) :=
  PE.imp (pe_callB (cr_all c.calm) hg hm (by decide +kernel) (pa_cons ha pa_nil h1) (he := h1)) fun σ H Q h => cb_imp (r1_sc fun H x d z hx h => by
    cases hx <;> simp only [allD, reduceCtorEq, Option.map_eq_some_iff] at h
    rename_i s r
    obtain ⟨ns, e, rfl⟩ := h
    rw [boolsOf_eq e] at r
    rw [r.bools] at s
    exact ⟨_, rfl, fun Q q => ⟨_, ns, rfl, .inl s, q⟩⟩) h
theorem d_any (c : Cok kk X) (ha : PE X a (tM X.K ma)) (hm : X.mg "any" = none) (hg : Gl X "any" := by rfl) (h1 : starEach [a] X.env = (false, eval a X.env) :: starEach [] X.env := by rfl) : PE X (.Call (.Name "any" p) [a] [] pos) (tM X.K (mUn (gSc1 anyD) ma)) :=
  PE.imp (pe_callB (cr_any c.calm) hg hm (by decide +kernel) (pa_cons ha pa_nil h1) (he := h1)) fun σ H Q h => cb_imp (r1_sc fun H x d z hx h => by
    cases hx <;> simp only [anyD, reduceCtorEq, Option.map_eq_some_iff] at h
    rename_i s r
    obtain ⟨ns, e, rfl⟩ := h
    rw [boolsOf_eq e] at r
    rw [r.bools] at s
    exact ⟨_, rfl, fun Q q => ⟨_, ns, rfl, .inl s, q⟩⟩) h
def gTuple : Slot → Env → Option (Slot × Env) := fun s Γ => (viewD Γ s).bind fun d => match d with
  | .list l => some (.d (.tuple l), Γ)
  | .tuple l => some (.d (.tuple l), Γ)
  | _ => none
theorem d_tuple (ha : PE X a (tM X.K ma)) (hm : X.mg "tuple" = none) (hg : Gl X "tuple" := by rfl) (h1 : starEach [a] X.env = (false, eval a X.env) :: starEach [] X.env := by rfl) : PE X (.Call (.Name "tuple" p) [a] [] pos) (tM X.K (mUn gTuple ma)) :=
  PE.imp (pe_callTy call_tuple_of hg hm (by decide +kernel) (pa_cons ha pa_nil h1) (he := h1)) fun σ H Q h => cb_imp (by
    intro B Hf H σ Γ ps x s fp res Γ' ⟨f, R⟩ e Q k
    obtain ⟨d, e1, e⟩ := bindE e
    cases d <;> simp only [reduceCtorEq, Option.some.injEq, Prod.mk.injEq] at e
    · obtain ⟨rfl, rfl⟩ := e
      obtain ⟨a1, xs, h1, q1, dx⟩ := R.itemsP (p := ⟨x, s, fp⟩) (by simp) e1 rfl
      exact ⟨a1, xs, congrArg (fun z => [z]) h1, .inl ⟨.inl (by simpa using q1), fun p hp => k _ _ _ _ ⟨f, R.pop.newT hp dx⟩⟩⟩
    · obtain ⟨rfl, rfl⟩ := e
      have fd := tupF R (p := ⟨x, s, fp⟩) (by simp) e1
      obtain ⟨a1, xs, h1, q1, dx⟩ := R.itemsP (p := ⟨x, s, fp⟩) (by simp) e1 rfl
      refine ⟨a1, xs, congrArg (fun z => [z]) h1, .inr ⟨by simpa using q1, ?_⟩⟩
      simp only at h1 fd
      rw [← h1]
      exact k x [] Hf H ⟨f, R.pop.pushD fd⟩) h
def gList : Slot → Env → Option (Slot × Env) := fun s Γ => (viewD Γ s).bind fun d => (seqOf d).bind fun p => some (.own (.lst p.2), Γ)
theorem d_list (ha : PE X a (tM X.K ma)) (hm : X.mg "list" = none) (hg : Gl X "list" := by rfl) (h1 : starEach [a] X.env = (false, eval a X.env) :: starEach [] X.env := by rfl) : PE X (.Call (.Name "list" p) [a] [] pos) (tM X.K (mUn gList ma)) :=
  PE.imp (pe_callTy call_list_of hg hm (by decide +kernel) (pa_cons ha pa_nil h1) (he := h1)) fun σ H Q h => cb_imp (by
    intro B Hf H σ Γ ps x s fp res Γ' ⟨f, R⟩ e Q k
    obtain ⟨d, e1, e⟩ := bindE e
    obtain ⟨⟨bb, l⟩, e2, e⟩ := bindE e
    simp only [Option.some.injEq, Prod.mk.injEq] at e
    obtain ⟨rfl, rfl⟩ := e
    obtain ⟨a1, xs, h1, q1, dx⟩ := R.itemsP (p := ⟨x, s, fp⟩) (by simp) e1 e2
    refine ⟨a1, xs, congrArg (fun z => [z]) h1, ?_, fun p hp => k _ _ _ _ ⟨f, R.pop.newL hp dx⟩⟩
    cases bb with
    | true => exact .inl (.inl (by simpa using q1))
    | false => exact .inr (by simpa using q1)) h
/-- list(range(n)) -/
def rangeD (n : Int) : List Dat := (List.range n.toNat).map fun (i : Nat) => .int i
def gListRg : Slot → Env → Option (Slot × Env) := fun s Γ => match s with
  | .d (.int n) => if 0 ≤ n ∧ n ≤ (lim : Int) then some (.own (.lst (rangeD n)), Γ) else none
  | _ => none
theorem dens_range (H : Hp) : ∀ (l : List Nat), Dens K H (l.map fun (i : Nat) => V.int ((0 : Int) + (i : Nat))) (l.map fun (i : Nat) => PyData.int i)
  | [] => .nil
  | n :: l => by rw [List.map_cons, List.map_cons, Int.zero_add]; exact .cons (.int _) (by simpa using dens_range H l)
theorem d_listRg {q1 : Pos} {a : Expr} {ma : M} (c : Cok kk X) (ha : PE X a (tM X.K ma)) (hm : X.mg "list" = none) (hm2 : X.mg "range" = none) (hg : Gl X "list" := by rfl) (hg2 : Gl X "range" := by rfl) (na : starEach [a] X.env = (false, eval a X.env) :: starEach [] X.env := by rfl)
    (na2 : starEach [.Call (.Name "range" q1) [a] [] p2] X.env = (false, eval (.Call (.Name "range" q1) [a] [] p2) X.env) :: starEach [] X.env := by rfl) :
    PE X (.Call (.Name "list" p) [.Call (.Name "range" q1) [a] [] p2] [] pos) (tM X.K (mUn gListRg ma)) :=
  PE.imp (pe_listRg c.calm hg hm (prg_1 hg2 hm2 ha na) na2) fun σ H Q h => by
    obtain ⟨B, Hf, Γ, ps, r, Γ', R, e, k⟩ := h
    obtain ⟨⟨s1, Γ1⟩, e1, e⟩ := bindE e
    refine ⟨B, Hf, Γ, ps, s1, Γ1, R, e1, fun x fp1 Hf1 H1 ⟨f, R1⟩ => ?_⟩
    revert e
    cases s1 with
    | d z =>
      cases z with
      | int n =>
        intro e
        simp only [gListRg] at e
        split at e
        · rename_i hn
          simp only [Option.some.injEq, Prod.mk.injEq] at e
          obtain ⟨rfl, rfl⟩ := e
          have q := (R1.pend _ List.mem_cons_self).2
          cases q
          have hl : (n.toNat : Int) = n := Int.toNat_of_nonneg hn.1
          have e0 : (n - 0).toNat = n.toNat := by rw [Int.sub_zero]
          have h1 := hn.1
          have h2 := hn.2
          have l1 : (lim : Int) < 2 ^ 62 := by decide
          have l2 : (lim : Nat) ≤ 2 ^ 24 := by decide
          refine ⟨n, rfl, ⟨by decide, by decide, by omega, by omega, ?_⟩, fun p hp => k _ _ _ _ ⟨f, R1.pop.newL hp ?_⟩⟩
          · rw [e0]
            omega
          · unfold rgV rangeD
            rw [e0]
            exact dens_range _ _
        · cases e
      | _ => intro e; cases e
    | _ => intro e; cases e
end
end DL

set_option Elab.async false
set_option linter.all false
set_option maxRecDepth 100000
set_option maxHeartbeats 4000000
namespace DL
open PySem L2
variable [TabsC]
def NoBor (ps : List Pend) : Prop := ∀ p ∈ ps, ∀ j, p.s ≠ .bor j
theorem NoBor.nil : NoBor [] := fun _ h => nomatch h
section
variable {K : PySem.W.Frag} {B : Base} {Hf H Hf' H' : Hp} {σ σ' : St} {Γ Γ' : Env} {f f' : Nat → List Addr} {ps ps' : List Pend} {a : Addr} {o : Own} {fp : List Addr} {v w : V} {s t : Slot}
/-- slots told anew, without what they owned -/
theorem ReachF.remap (R : ReachF K B Hf H σ Γ f ps) (hl : σ'.length = σ.length) (hl2 : Γ'.length = Γ.length) (nb : NoBor ps)
    (h : ∀ (i : Nat) (g : Slot), Γ'[i]? = some g → (Γ[i]? = some g ∧ σ'[i]? = σ[i]?) ∨ (SlotOk K Hf H σ'[i]? g [] ∧ ∀ o, g ≠ .own o)) : ∃ f', ReachF K B Hf H σ' Γ' f' ps := by
  classical
  have own : ∀ (i : Nat) (g : Slot), (¬ (Γ[i]? = some g ∧ σ'[i]? = σ[i]?)) → Γ'[i]? = some g → SlotOk K Hf H σ'[i]? g [] := fun i g n e => by
    rcases h i g e with z | z
    · exact absurd z n
    · exact z.1
  refine ⟨fun i => if Γ'[i]? = Γ[i]? ∧ σ'[i]? = σ[i]? then f i else [], ?_⟩
  have sub : ∀ i a, a ∈ (if Γ'[i]? = Γ[i]? ∧ σ'[i]? = σ[i]? then f i else []) → a ∈ f i := fun i a ha => by
    split at ha
    · exact ha
    · cases ha
  refine ⟨by rw [hl, hl2]; exact R.len, R.sub, fun i g e => ?_, fun i e => ?_, fun i j a ha hb => R.disj i j a (sub i a ha) (sub j a hb), fun p hp => ?_, R.pdis, fun p hp a ha i hb => R.psl p hp a ha i (sub i a hb), R.ex, R.keep, R.dom, R.new, fun i a ha => R.own i a (sub i a ha), R.pown, R.tab⟩
  · by_cases c : Γ[i]? = some g ∧ σ'[i]? = σ[i]?
    · have c' : Γ'[i]? = Γ[i]? ∧ σ'[i]? = σ[i]? := ⟨e.trans c.1.symm, c.2⟩
      rw [if_pos c', c.2]
      exact R.slot i g c.1
    · have c' : ¬ (Γ'[i]? = Γ[i]? ∧ σ'[i]? = σ[i]?) := fun z => c ⟨z.1.symm.trans e, z.2⟩
      rw [if_neg c']
      exact own i g c e
  · split
    · rename_i c
      exact R.out i (c.1.symm.trans e)
    · rfl
  · have q := R.pend p hp
    have n := nb p hp
    obtain ⟨v, s, fp⟩ := p
    cases s with
    | bor j => exact absurd rfl (n j)
    | no => exact q
    | d x => exact q
    | own o => exact q
    | fn a => exact q
    | z ds => exact q
/-- what a frame owned is handed out -/
theorem ReachF.move {i : Nat} {o : Own} (R : ReachF K B Hf H σ Γ f (⟨v, .bor i, fp⟩ :: ps)) (hi : Γ[i]? = some (.own o)) : ∃ f', ReachF K B Hf H σ (Γ.set i .no) f' (⟨v, .own o, f i⟩ :: ps) := by
  obtain ⟨_, e0⟩ := R.pend _ List.mem_cons_self
  have hil : i < Γ.length := (List.getElem?_eq_some_iff.mp hi).1
  obtain ⟨a, e1, q1⟩ := R.slot i _ hi
  rw [e0] at e1
  cases e1
  have R2 := R.pop.forget hil
  refine ⟨_, R2.push ⟨a, rfl, q1⟩ (fun b hb => ⟨fun j hj => ?_, fun q hq hc => R.psl q (List.mem_cons_of_mem _ hq) b hc i hb⟩) (fun b hb => R.own i b hb)⟩
  by_cases ej : j = i
  · simp [ej] at hj
  · simp only [ej, if_false] at hj
    exact ej (R.disj j i b hj hb)
end

/-! ### targets -/
abbrev MG := Slot → Env → Option Env
section
variable (K : PySem.W.Frag)
def tG (W : List Nat) (g : MG) : TG := fun v σ H Q => ∃ B Hf Γ ps s fp Γ', Reach K B Hf H σ Γ (⟨v, s, fp⟩ :: ps) ∧ NoBor ps ∧ g s Γ = some Γ' ∧
  ∀ σ' Hf', σ'.length = σ.length → Stay W σ σ' → Ex Hf Hf' → Reach K B Hf' H σ' Γ' ps → Q σ' H
abbrev MGs := List Dat → Env → Option Env
def tGs (W : List Nat) (g : MGs) : TGs := fun vs σ H Q => ∃ B Hf Γ ps ds Γ', Reach K B Hf H σ Γ ps ∧ NoBor ps ∧ Dens K Hf vs ds ∧ g ds Γ = some Γ' ∧
  ∀ σ' Hf', σ'.length = σ.length → Stay W σ σ' → Ex Hf Hf' → Reach K B Hf' H σ' Γ' ps → Q σ' H
end
def setS (i : Nat) : MG := fun s Γ => if i < Γ.length then (match s with
    | .d x => some (Γ.set i (.d x))
    | .own o => some (Γ.set i (.own o))
    | .fn a => some (Γ.set i (.fn a))
    | .bor j => (settle Γ (.bor j)).bind fun q => some (q.2.set i (.d q.1))
    | .no => none
    | .z _ => none) else none
def setN : MGs := fun ds Γ => match ds with
  | [] => some Γ
  | _ => none
def setC (g : MG) (gs : MGs) : MGs := fun ds Γ => match ds with
  | [] => none
  | d :: r => (g (.d d) Γ).bind fun Γ1 => gs r Γ1
def setT (n : Nat) (gs : MGs) : MG := fun s Γ => match s with
  | .d (.tuple l) => if l.length = n then gs l Γ else none
  | _ => none
section
variable {X : Cx} {K : PySem.W.Frag} {a b c e tg : Expr} {ma mb mc : M} {mt mu : MT} {md : MD} {pos : Pos} {k : Nat} {es : List Expr} {W W2 : List Nat} {g : MG} {gs : MGs}
theorem PG.imp {t t' : TG} (h : PG X tg t) (i : ∀ v σ H Q, t' v σ H Q → t v σ H Q) : PG X tg t' := ⟨fun pins s σ H v u Q I r q => h.run pins s σ H v u Q I r (i v σ H Q q)⟩
theorem PGs.imp {t t' : TGs} (h : PGs X es t) (i : ∀ v σ H Q, t' v σ H Q → t v σ H Q) : PGs X es t' := ⟨fun pins s σ H v u Q I r q => h.run pins s σ H v u Q I r (i v σ H Q q)⟩
theorem stay_set (i : Nat) (σ : St) (v : Option V) : Stay [i] σ (σ.set i v) := fun j hj => by
  rw [List.getElem?_set_ne (fun e => hj (by simp [e]))]
theorem store_all {B : Base} {Hf H : Hp} {σ : St} {Γ Γ' : Env} {ps : List Pend} {v : V} {s : Slot} {fp : List Addr} {i : Nat} (R : Reach K B Hf H σ Γ (⟨v, s, fp⟩ :: ps)) (nb : NoBor ps) (e : setS i s Γ = some Γ') :
    ∃ Hf', Ex Hf Hf' ∧ Reach K B Hf' H (σ.set i (some v)) Γ' ps := by
  unfold setS at e
  split at e
  · rename_i hl
    have nbj : ∀ p ∈ ps, ∀ j, p.s = .bor j → j ≠ i := fun p hp j h => absurd h (nb p hp j)
    cases s with
    | no => cases e
    | d x => cases e; obtain ⟨f, R⟩ := R; exact ⟨Hf, Evl.Ex.refl _, _, R.store hl rfl nbj⟩
    | own o => cases e; obtain ⟨f, R⟩ := R; exact ⟨Hf, Evl.Ex.refl _, _, R.store hl rfl nbj⟩
    | fn a => cases e; obtain ⟨f, R⟩ := R; exact ⟨Hf, Evl.Ex.refl _, _, R.store hl rfl nbj⟩
    | z ds => cases e
    | bor j =>
      simp only at e
      obtain ⟨⟨x, Γ1⟩, e1, e⟩ := bindE e
      cases e
      obtain ⟨Hf', ex, f', R'⟩ := R.settle e1
      exact ⟨Hf', ex, _, R'.store (by rw [settle_len e1]; exact hl) rfl nbj⟩
  · cases e
theorem dg_name (i : Nat) {x : Str} (c : Cok k X) (hi : X.N[i]? = some x := by rfl) (hx : Loc X.env.scope x := by first | exact Or.inl rfl | exact Or.inr rfl) (hf : X.fn x = true ∨ X.env.scope.names.lookup x = some .local := by first | exact .inl rfl | exact .inr rfl) : PG X (.Name x pos) (tG X.K [i] (setS i)) :=
  PG.imp (pg_name c.nd hi hx hf) fun v σ H Q h => by
    obtain ⟨B, Hf, Γ, ps, s, fp, Γ', R, nb, e, k⟩ := h
    obtain ⟨Hf', ex, R'⟩ := store_all R nb e
    exact k _ Hf' (by rw [List.length_set]) (stay_set _ _ _) ex R'
theorem dgs_nil : PGs X [] (tGs X.K [] setN) := PGs.imp pgs_nil fun v σ H Q h => by
  obtain ⟨B, Hf, Γ, ps, ds, Γ', R, nb, dv, e, k⟩ := h
  cases dv with
  | nil => cases e; exact ⟨rfl, k σ Hf rfl (Stay.refl _ _) (Evl.Ex.refl _) R⟩
  | cons _ _ => cases e
theorem dgs_cons (h1 : PG X e (tG X.K W g)) (h2 : PGs X es (tGs X.K W2 gs)) (hs : (assignEach (e :: es) X.env).map (·.2) = assign e X.env :: (assignEach es X.env).map (·.2) := by rfl) : PGs X (e :: es) (tGs X.K (W ++ W2) (setC g gs)) :=
  PGs.imp (pgs_cons h1 h2 hs) fun v σ H Q h => by
    obtain ⟨B, Hf, Γ, ps, ds, Γ', R, nb, dv, e, k⟩ := h
    cases dv with
    | nil => cases e
    | cons d1 dr =>
      obtain ⟨Γ1, e1, e2⟩ := bindE e
      obtain ⟨f, R⟩ := R
      refine ⟨_, _, rfl, B, Hf, Γ, ps, _, [], Γ1, ⟨f, R.pushD d1⟩, nb, e1, fun σ' Hf1 l1 s1 ex1 R1 => ?_⟩
      exact ⟨B, Hf1, Γ1, ps, _, Γ', R1, nb, dr.mono ex1, e2, fun σ2 Hf2 l2 s2 ex2 R2 => k σ2 Hf2 (l2.trans l1) ((s1.mono fun i hi => List.mem_append_left _ hi).trans (s2.mono fun i hi => List.mem_append_right _ hi)) (ex1.trans ex2) R2⟩
theorem dg_tup {j n : Nat} (c : Cok k X) (h : PGs X es (tGs X.K W gs)) (hn : (assignEach es X.env).length = n := by rfl) (hst : (assignEach es X.env).findIdx? (·.1) = none := by rfl) : PG X (.Tuple es j pos) (tG X.K W (setT n gs)) :=
  PG.imp (pg_tup c.calm h hn hst) fun v σ H Q h => by
    obtain ⟨B, Hf, Γ, ps, s, fp, Γ', ⟨f, R⟩, nb, e, k⟩ := h
    cases s with
    | d x =>
      cases x <;> simp only [setT, reduceCtorEq] at e
      split at e
      · rename_i hl
        have q := (R.pend _ List.mem_cons_self).2
        cases q with
        | tup h1 h2 =>
          exact ⟨_, _, rfl, SqT.of (R.sub _ _ h1), h2.length.trans hl, B, Hf, Γ, ps, _, Γ', ⟨f, R.pop⟩, nb, h2, e, k⟩
      · cases e
    | _ => cases e

/-! ### statements -/
variable {st : Stmt} {rest body orelse : List Stmt} {m m1 m2 : MS}
def mNext : MS := fun Γ => some (.nx, Γ)
def mSeq (m1 m2 : MS) : MS := fun Γ => (m1 Γ).bind fun p => match p.1 with
  | .nx => m2 p.2
  | f => some (f, p.2)
theorem of_mono {D : Ends} {B : Base} {σ σ1 : St} {Γ' : Env} {fl : Flw} (h : Ends.of K D (W ++ W2) σ B Γ' fl) (s1 : Stay W σ σ1) : Ends.of K D W2 σ1 B Γ' fl := by
  have go : ∀ {σ'}, Stay W2 σ1 σ' → Stay (W ++ W2) σ σ' := fun {σ'} s2 => (s1.mono fun i hi => List.mem_append_left _ hi).trans (s2.mono fun i hi => List.mem_append_right _ hi)
  cases fl with
  | nx => exact fun σ' Hf' H' s2 R => h σ' Hf' H' (go s2) R
  | ret r => exact fun σ' v fp Hf' H' s2 R => h σ' v fp Hf' H' (go s2) R
  | bk => exact fun σ' Hf' H' s2 R => h σ' Hf' H' (go s2) R
  | ct => exact fun σ' Hf' H' s2 R => h σ' Hf' H' (go s2) R
theorem of_left {D : Ends} {B : Base} {σ : St} {Γ' : Env} {fl : Flw} (h : Ends.of K D (W ++ W2) σ B Γ' fl) : Ends.of K D W σ B Γ' fl := by
  have go : ∀ {σ'}, Stay W σ σ' → Stay (W ++ W2) σ σ' := fun {σ'} s2 => s2.mono fun i hi => List.mem_append_left _ hi
  cases fl with
  | nx => exact fun σ' Hf' H' s2 R => h σ' Hf' H' (go s2) R
  | ret r => exact fun σ' v fp Hf' H' s2 R => h σ' v fp Hf' H' (go s2) R
  | bk => exact fun σ' Hf' H' s2 R => h σ' Hf' H' (go s2) R
  | ct => exact fun σ' Hf' H' s2 R => h σ' Hf' H' (go s2) R
theorem of_right {D : Ends} {B : Base} {σ : St} {Γ' : Env} {fl : Flw} (h : Ends.of K D (W ++ W2) σ B Γ' fl) : Ends.of K D W2 σ B Γ' fl := of_mono h (Stay.refl _ _)
theorem dss_nil : PSs X [] (tS X.K [] mNext) := PSs.imp pss_nil fun D σ H h => by
  obtain ⟨B, Hf, Γ, fl, Γ', R, e, k⟩ := h
  cases e
  exact k σ Hf H (Stay.refl _ _) R
theorem dss_cons (h1 : PS X st (tS X.K W m1)) (h2 : PSs X rest (tS X.K W2 m2)) : PSs X (st :: rest) (tS X.K (W ++ W2) (mSeq m1 m2)) := PSs.imp (pss_cons h1 h2) fun D σ H h => by
  obtain ⟨B, Hf, Γ, fl, Γ', R, e, k⟩ := h
  obtain ⟨⟨f1, Γ1⟩, e1, e⟩ := bindE e
  refine ⟨B, Hf, Γ, f1, Γ1, R, e1, ?_⟩
  cases f1 with
  | nx => exact fun σ1 Hf1 H1 s1 R1 => ⟨B, Hf1, Γ1, fl, Γ', R1, e, of_mono k s1⟩
  | ret r => cases e; exact of_left k
  | bk => cases e; exact of_left k
  | ct => cases e; exact of_left k
theorem dss_one (h1 : PS X st (tS X.K W m1)) : PSs X [st] (tS X.K W m1) := pss_one h1
theorem ds_pass : PS X (.Pass pos) (tS X.K [] mNext) := PS.imp ps_pass fun D σ H h => by
  obtain ⟨B, Hf, Γ, fl, Γ', R, e, k⟩ := h
  cases e
  exact k σ Hf H (Stay.refl _ _) R
def mBrk : MS := fun Γ => some (.bk, Γ)
def mCnt : MS := fun Γ => some (.ct, Γ)
theorem ds_break : PS X (.Break pos) (tS X.K [] mBrk) := PS.imp ps_break fun D σ H h => by
  obtain ⟨B, Hf, Γ, fl, Γ', R, e, k⟩ := h
  cases e
  exact k σ Hf H (Stay.refl _ _) R
theorem ds_cont : PS X (.Continue pos) (tS X.K [] mCnt) := PS.imp ps_continue fun D σ H h => by
  obtain ⟨B, Hf, Γ, fl, Γ', R, e, k⟩ := h
  cases e
  exact k σ Hf H (Stay.refl _ _) R
/-- code that is never come to -/
def mNever : MS := fun _ => none
theorem ds_never : PS X st (tS X.K [] mNever) := PS.imp ps_never fun D σ H h => by
  obtain ⟨B, Hf, Γ, fl, Γ', R, e, k⟩ := h
  cases e
/-- an expression whose value is dropped -/
def mDrop (m : M) : MS := fun Γ => (m Γ).bind fun p => some (.nx, p.2)
theorem ds_expr (ha : PE X a (tM X.K ma)) (hs : swapsWith a none pos.line X.env = pure false := by rfl) : PS X (.Expr a pos) (tS X.K [] (mDrop ma)) := PS.imp (ps_expr ha hs) fun D σ H h => by
  obtain ⟨B, Hf, Γ, fl, Γ', R, e, k⟩ := h
  obtain ⟨⟨s1, Γ1⟩, e1, e⟩ := bindE e
  cases e
  exact ⟨B, Hf, Γ, [], s1, Γ1, R, e1, fun v fp Hf1 H1 ⟨f, R1⟩ => k σ Hf1 H1 (Stay.refl _ _) ⟨f, R1.pop⟩⟩
/-- return: what the frame made is handed out, what it was handed (the first n names) is frozen -/
def outS (n : Nat) (s : Slot) (Γ : Env) : Option (Slot × Env) := match s with
  | .d x => some (.d x, Γ)
  | .own o => some (.own o, Γ)
  | .fn a => some (.fn a, Γ)
  | .z ds => some (.z ds, Γ)
  | .no => none
  | .bor i => match Γ[i]? with
    | some (.own o) => if n ≤ i then some (.own o, Γ.set i .no) else some (.d o.dat, Γ.set i (.d o.dat))
    | some (.d x) => some (.d x, Γ)
    | _ => none
def mRet (n : Nat) (m : M) : MS := fun Γ => (m Γ).bind fun p => (outS n p.1 p.2).bind fun q => some (.ret q.1, q.2)
theorem out_all {n : Nat} {B : Base} {Hf H : Hp} {σ : St} {Γ Γ' : Env} {ps : List Pend} {v : V} {s r : Slot} {fp : List Addr} (R : Reach K B Hf H σ Γ (⟨v, s, fp⟩ :: ps)) (e : outS n s Γ = some (r, Γ')) :
    ∃ Hf' fp', Reach K B Hf' H σ Γ' (⟨v, r, fp'⟩ :: ps) := by
  cases s with
  | no => cases e
  | d x => cases e; exact ⟨Hf, fp, R⟩
  | own o => cases e; exact ⟨Hf, fp, R⟩
  | fn a => cases e; exact ⟨Hf, fp, R⟩
  | z ds => cases e; exact ⟨Hf, fp, R⟩
  | bor i =>
    simp only [outS] at e
    split at e
    · rename_i o ho
      split at e
      · cases e
        obtain ⟨f, R⟩ := R
        obtain ⟨f', R'⟩ := R.move ho
        exact ⟨Hf, _, f', R'⟩
      · cases e
        obtain ⟨Hf', _, R'⟩ := R.settle (x := o.dat) (Γ' := Γ.set i (.d o.dat)) (by simp only [settle, ho])
        exact ⟨Hf', _, R'⟩
    · rename_i x hx
      cases e
      obtain ⟨Hf', _, R'⟩ := R.settle (x := x) (Γ' := Γ) (by simp only [settle, hx])
      exact ⟨Hf', _, R'⟩
    · cases e
theorem ds_ret (n : Nat) (ha : PE X a (tM X.K ma)) : PS X (.Return (some a) pos) (tS X.K [] (mRet n ma)) := PS.imp (ps_ret ha) fun D σ H h => by
  obtain ⟨B, Hf, Γ, fl, Γ', R, e, k⟩ := h
  obtain ⟨⟨s1, Γ1⟩, e1, e⟩ := bindE e
  obtain ⟨⟨r, Γ2⟩, e2, e⟩ := bindE e
  cases e
  refine ⟨B, Hf, Γ, [], s1, Γ1, R, e1, fun v fp Hf1 H1 R1 => ?_⟩
  obtain ⟨Hf2, fp2, R2⟩ := out_all R1 e2
  exact k σ v fp2 Hf2 H1 (Stay.refl _ _) R2
def mRetN : MS := fun Γ => some (.ret (.d .none), Γ)
theorem ds_retN : PS X (.Return none pos) (tS X.K [] mRetN) := PS.imp ps_retN fun D σ H h => by
  obtain ⟨B, Hf, Γ, fl, Γ', ⟨f, R⟩, e, k⟩ := h
  cases e
  exact k σ _ [] Hf H (Stay.refl _ _) ⟨f, R.pushD .non⟩
def mSet (g : MG) (m : M) : MS := fun Γ => (m Γ).bind fun p => (g p.1 p.2).bind fun Γ' => some (.nx, Γ')
theorem set_imp {i : Nat} {te : TE} (hi : ∀ σ H Q, tM K ma σ H Q → te σ H Q) {D : Ends} {σ : St} {H : Hp} (h : tS K [i] (mSet (setS i) ma) D σ H) : tAsg te (gName i) D σ H := by
  obtain ⟨B, Hf, Γ, fl, Γ', R, e, k⟩ := h
  obtain ⟨⟨s1, Γ1⟩, e1, e⟩ := bindE e
  obtain ⟨Γ2, e2, e⟩ := bindE e
  cases e
  refine hi _ _ _ ⟨B, Hf, Γ, [], s1, Γ1, R, e1, fun v fp Hf1 H1 R1 => ?_⟩
  obtain ⟨Hf2, _, R2⟩ := store_all R1 NoBor.nil e2
  exact k _ Hf2 H1 (stay_set _ _ _) R2
theorem ds_set (i : Nat) {x : Str} {pos' : Pos} (c : Cok k X) (ha : PE X a (tM X.K ma)) (hi : X.N[i]? = some x := by rfl) (hx : Loc X.env.scope x := by first | exact Or.inl rfl | exact Or.inr rfl) (hs : swapsWith a (some (.Name x pos')) pos.line X.env = pure false := by rfl)
    (hf : X.fn x = true ∨ X.env.scope.names.lookup x = some .local := by first | exact .inl rfl | exact .inr rfl) : PS X (.Assign [.Name x pos'] a pos) (tS X.K [i] (mSet (setS i) ma)) :=
  PS.imp (ps_set c.nd hi hx ha hs hf) fun D σ H h => set_imp (fun _ _ _ q => q) h
/-- target = value, any target -/
theorem ds_asg (ha : PE X a (tM X.K ma)) (hg : PG X tg (tG X.K W g)) (hs : swapsWithSole [tg] a pos.line X.env = pure false := by rfl) (hw : swappedStores [tg] a X.env = pure none := by rfl) (h1 : (assignEach [tg] X.env).map (·.2) = [assign tg X.env] := by rfl) :
    PS X (.Assign [tg] a pos) (tS X.K W (mSet g ma)) := PS.imp (ps_asg ha hg hs hw h1) fun D σ H h => by
  obtain ⟨B, Hf, Γ, fl, Γ', R, e, k⟩ := h
  obtain ⟨⟨s1, Γ1⟩, e1, e⟩ := bindE e
  obtain ⟨Γ2, e2, e⟩ := bindE e
  cases e
  exact ⟨B, Hf, Γ, [], s1, Γ1, R, e1, fun v fp Hf1 H1 R1 => ⟨B, Hf1, Γ1, [], s1, fp, _, R1, NoBor.nil, e2, fun σ' Hf2 _ s2 _ R2 => k σ' Hf2 H1 s2 R2⟩⟩
/-- x += e of ints -/
def mAug (i : Nat) (g : Int → Int → Int) (ma : M) : MS := fun Γ => match Γ[i]? with
  | some (.d (.int n)) => (ma Γ).bind fun p => match p.1 with
    | .d (.int z) => some (.nx, p.2.set i (.d (.int (g n z))))
    | _ => none
  | _ => none
theorem ds_aug (i : Nat) {x : Str} {pos' : Pos} {op : Operator} {gf : Int → Int → Int} (ho : PIp X op (ipI gf)) (c : Cok k X) (ha : PE X a (tM X.K ma)) (hi : X.N[i]? = some x := by rfl) (hx : Loc X.env.scope x := by first | exact Or.inl rfl | exact Or.inr rfl)
    (hf : X.fn x = true ∨ X.env.scope.names.lookup x = some .local := by first | exact .inl rfl | exact .inr rfl) : PS X (.AugAssign (.Name x pos') op a pos) (tS X.K [i] (mAug i gf ma)) := PS.imp (ps_aug c.nd hi hx ha ho hf) fun D σ H h => by
  obtain ⟨B, Hf, Γ, fl, Γ', ⟨f, R⟩, e, k⟩ := h
  unfold mAug at e
  split at e
  · rename_i n hn
    obtain ⟨_, v, e1, q1⟩ := R.slot i _ hn
    cases q1
    have hil : i < Γ.length := (List.getElem?_eq_some_iff.mp hn).1
    obtain ⟨⟨s1, Γ1⟩, e2, e⟩ := bindE e
    refine ⟨.int n, e1, _, Hf, Γ, [], s1, Γ1, ⟨f, R.base⟩, e2, fun y fp Hf1 H1 ⟨f1, R1⟩ => ?_⟩
    revert e
    cases s1 with
    | d z =>
      cases z with
      | int z =>
        intro e
        cases e
        have q := (R1.pend _ List.mem_cons_self).2
        cases q
        refine ⟨n, z, rfl, rfl, ?_⟩
        have R2 := R.trans (ps := []) R1.pop (.inl rfl)
        have hl1 : i < Γ1.length := by rw [← R1.len, R.len]; exact hil
        exact k _ Hf1 H1 (stay_set _ _ _) ⟨_, (R2.pushD (v := .int (gf n z)) (.int _)).store hl1 rfl (by simp)⟩
      | _ => intro e; cases e
    | _ => intro e; cases e
  · cases e
def mIfS (mt : MT) (m1 m2 : MS) : MS := fun Γ => (mt Γ).bind fun p => if p.1 then m1 p.2 else m2 p.2
theorem ds_if (hc : PT X c (tT X.K mt)) (h1 : PSs X body (tS X.K W m1)) (h2 : PSs X orelse (tS X.K W2 m2)) : PS X (.If c body orelse pos) (tS X.K (W ++ W2) (mIfS mt m1 m2)) := PS.imp (ps_if hc h1 h2) fun D σ H h => by
  obtain ⟨B, Hf, Γ, fl, Γ', R, e, k⟩ := h
  obtain ⟨⟨b1, Γ1⟩, e1, e⟩ := bindE e
  refine ⟨B, Hf, Γ, [], b1, Γ1, R, e1, fun Hf1 H1 R1 => ?_⟩
  cases b1 with
  | true => exact ⟨B, Hf1, Γ1, fl, Γ', R1, by simpa using e, of_left k⟩
  | false => exact ⟨B, Hf1, Γ1, fl, Γ', R1, by simpa using e, of_right k⟩
/-! while: fuel -/
def whL (mt : MT) (m : MS) : Nat → MS
  | 0, _ => none
  | n + 1, Γ => (mt Γ).bind fun p => if p.1 then (m p.2).bind fun q => match q.1 with
      | .nx => whL mt m n q.2
      | .ct => whL mt m n q.2
      | .bk => some (.nx, q.2)
      | .ret r => some (.ret r, q.2)
    else some (.nx, p.2)
theorem ds_while (n : Nat) (hp : PassesOwn (model X.prog X.w) X.A X.env X.xe) (hc : PT X c (tT X.K mt)) (hb : PSs X body (tS X.K W m)) : PS X (.While c body [] pos) (tS X.K W (whL mt m n)) := PS.imp (ps_while hp hc hb) fun D σ H h => by
  obtain ⟨B, Hf, Γ, fl, Γ', R, e, k⟩ := h
  refine ⟨fun j σ' H' => Stay W σ σ' ∧ ∃ Hf' Γi, Reach X.K B Hf' H' σ' Γi [] ∧ whL mt m j Γi = some (fl, Γ'), ⟨n, Stay.refl _ _, Hf, Γ, R, e⟩, ?_⟩
  rintro j σ1 H1 ⟨s1, Hf1, Γ1, R1, e1⟩
  cases j with
  | zero => cases e1
  | succ j =>
    obtain ⟨⟨b1, Γ2⟩, e2, e1⟩ := bindE e1
    refine ⟨B, Hf1, Γ1, [], b1, Γ2, R1, e2, fun Hf2 H2 R2 => ?_⟩
    cases b1 with
    | false =>
      simp only [Bool.false_eq_true, if_false] at e1 ⊢
      cases e1
      exact k σ1 Hf2 H2 s1 R2
    | true =>
      simp only [if_true] at e1 ⊢
      obtain ⟨⟨f3, Γ3⟩, e3, e1⟩ := bindE e1
      refine ⟨fun σ' H' => Stay W σ σ' ∧ ∃ Hf' Γi, Reach X.K B Hf' H' σ' Γi [] ∧ whL mt m j Γi = some (fl, Γ'), fun σ' H' h => ⟨j, Nat.lt_succ_self _, h⟩, B, Hf2, Γ2, f3, Γ3, R2, e3, ?_⟩
      cases f3 with
      | nx => exact fun σ' Hf' H' s2 R' => ⟨s1.trans s2, Hf', Γ3, R', e1⟩
      | ct => exact fun σ' Hf' H' s2 R' => ⟨s1.trans s2, Hf', Γ3, R', e1⟩
      | bk => cases e1; exact fun σ' Hf' H' s2 R' => k σ' Hf' H' (s1.trans s2) R'
      | ret r => cases e1; exact fun σ' v fp Hf' H' s2 R' => k σ' v fp Hf' H' (s1.trans s2) R'
end
end DL

set_option Elab.async false
set_option linter.all false
set_option maxRecDepth 100000
set_option maxHeartbeats 4000000
/-! enumerate over a tuple -/
namespace PySem
open Sem (wp)
open AutoSeq1 (wpAny_loadPart')
theorem dl_meets_enumerate {v : Value} {o : Obj} {H : Heap → Prop} (B : Begins v o H) :
    Meets (Builtin.«enumerate.__new__» ⟨[.type "enumerate", v], []⟩) (fun _ R s => H s.heap ∧
      R (.ok (.ret (.ref (s.heap.push o).objs.size))) { s with heap := (s.heap.push o).push { cls := .type "enumerate", data := .fields #[.none, .bool false, .ref s.heap.objs.size, rawInt 0, .none, .none] } }) :=
  .of_wp fun prog w A R s h => by
    obtain ⟨hp, g, d, tk, os⟩ := s; obtain ⟨h1, h⟩ := h
    have hsub := sub_enumerate
    have q1 : ∀ {A' : Around} {E : Value → Shared → Prop} {Q : Value → Shared → Prop}, Q (.ref hp.objs.size) ⟨hp.push o, g, d, tk, os⟩ → wpAny (model prog w) A' (pyIter v) Q E ⟨hp, g, d, tk, os⟩ :=
      fun q => B.iter prog w _ _ ⟨hp, g, d, tk, os⟩ _ h1 q
    wp_walk using q1
    refine wpAny_stack_any fun st => wpAny_pure ?_
    split
    · rename_i c _ _ _ _ _
      cases (c == Value.type "enumerate")
      · wp_walk using q1
        exact ⟨_, rfl, h⟩
      · wp_walk using q1
        exact ⟨_, rfl, h⟩
    · wp_walk using q1
      exact ⟨_, rfl, h⟩
set_option maxHeartbeats 4000000 in
theorem dl_call_enumerate {prog : Program} {w : World} {A : Around} {E : Value → Shared → Prop} {s : Shared} {v : Value} {o : Obj} {H : Heap → Prop} {Q : Value → Shared → Prop} (B : Begins v o H) (h1 : H s.heap)
    (h : ∀ h', IsEnum h' (s.heap.objs.size + 1) s.heap.objs.size 0 .none → h'.get? s.heap.objs.size = some o → h'.objs.size = s.heap.objs.size + 2 →
      (∀ b u, s.heap.get? b = some u → h'.get? b = some u) → Q (.ref (s.heap.objs.size + 1)) { s with heap := h' }) :
    wpAny (model prog w) A (call (.type "enumerate") [v]) Q E s := by
  refine callType_new F.called_enumerate (by decide) (F.typeCall_enumerate_1 _) (F.newCall_enumerate_1 _) (fun obj => F.args_object_init_2 obj _) F.entry_enumerate_new (dl_meets_enumerate B) ⟨h1, ?_⟩
  have hz : (s.heap.push o).objs.size = s.heap.objs.size + 1 := Heap.size_push ..
  show _ ∧ _
  rw [hz]
  have he : IsEnum ((s.heap.push o).push { cls := .type "enumerate", data := .fields #[.none, .bool false, .ref s.heap.objs.size, rawInt 0, .none, .none] }) (s.heap.objs.size + 1) s.heap.objs.size 0 .none := by
    have := Heap.get?_push_size (s.heap.push o) (o := { cls := .type "enumerate", data := .fields #[.none, .bool false, .ref s.heap.objs.size, rawInt 0, .none, .none] }) rfl
    rw [hz] at this; exact this
  refine ⟨⟨_, he, rfl⟩, h _ he (Heap.get?_push_of_some _ (Heap.get?_push_size _ B.free)) (by rw [Heap.size_push, hz]) fun b u x => Heap.get?_push_of_some _ (Heap.get?_push_of_some _ x)⟩
end PySem
namespace DL
open PySem L2
variable [TabsC]
/-- the items of the tuple at a, numbered, in new pairs -/
def IteT (K : PySem.W.Frag) (a : Addr) : It :=
  ⟨fun i H => ∃ (xs : List V) (x : V), SqT K H a xs ∧ xs[i]? = some x, fun i H v H' => ∃ T x, v = .ref T ∧ H T = none ∧ H' = upd H T (.tup [.int (i : Nat), x]) ∧ ∀ xs, SqT K H a xs → xs[i]? = some x, fun i H => ∃ xs : List V, SqT K H a xs ∧ xs.length = i⟩
theorem turn_enumT {P : Program} {w : World} {K : PySem.W.Frag} {elts : List Expr} {kk : Nat} {tpos : Pos} (a e it : Addr) (hae : a ≠ it) (hae2 : a ≠ e) :
    Turn P w K (.Tuple elts kk tpos) (IteT K a) [e, it] e (fun i h => (∃ old, IsEnum h e it ((i : Nat) : Int) old) ∧ h.IsTupleIter it a i ∧ e ≠ it) where
  mem := by simp
  obj := fun i h st b hb => by
    obtain ⟨⟨old, he⟩, ⟨o, ho, hc, hd⟩, _⟩ := st
    have e' : b = e ∨ b = it := by simpa using hb
    rcases e' with z | z
    · rw [z]; exact ⟨_, he, fun v q => nomatch q⟩
    · rw [z]; exact ⟨o, ho, fun v q => by rw [hd] at q; cases q⟩
  keep := fun i h h' st k => let ⟨⟨old, he⟩, hi, hne⟩ := st; ⟨⟨old, k e (by simp) _ he⟩, hi.at fun o q => k it (by simp) o q, hne⟩
  item := by
    intro X hP hw hK hc i pins s σ H E I hf st hg
    subst hP hw hK
    obtain ⟨⟨old, he⟩, hit, hne⟩ := st
    obtain ⟨xs, x, hq, hx⟩ := hg
    obtain ⟨its, rv, p, hz⟩ := I.tuple hq
    obtain ⟨u, hu, ru⟩ := rv.get hx
    have hel : e < s.heap.objs.size := Heap.lt_size he
    have hil : it < s.heap.objs.size := by obtain ⟨_, q, _⟩ := hit; exact Heap.lt_size q
    have D := Draws.tuple (prog := X.prog) (w := X.w) (A := X.A.in1) (I.ok.hd hc) it a hae its.toArray
    have hlt : i < its.toArray.size := by
      have := (List.getElem?_eq_some_iff.mp hu).1
      simpa using this
    refine wpAny_pyNext_enum_itemD D he ⟨hit, p⟩ hlt hne (by simp; exact ⟨hne, fun z => hae2 z.symm⟩) fun x' h' tk hx' ho hst' hT hsz hk => ?_
    obtain rfl : x' = u := by
      have : some u = some x' := by rw [← hx']; simpa using hu.symm
      exact (Option.some.inj this).symm
    refine ⟨_, rfl, wpAny_letOwnedTupleGo_enum (s := { s with heap := h', toks := tk + 1 }) ho fun h'' he' sb => ?_⟩
    have hT2 : h''.get? s.heap.objs.size = some { cls := .type "tuple", data := .seq #[.int i tk, x'] } := (sb.2 _ (Nat.ne_of_gt hel)).trans hT
    have new : ObjOk X.prog X.w (upd H s.heap.objs.size (.tup [.int (i : Nat), x])) h'' s.heap.objs.size (.tup [.int (i : Nat), x]) :=
      ⟨by show 2 ≤ sizeLine; decide, [.int i tk, x'], .cons ⟨_, rfl⟩ (.cons ru .nil), ⟨_, hT2, rfl, _, rfl⟩⟩
    have I1 : Inv X pins σ (upd H s.heap.objs.size (.tup [.int (i : Nat), x])) { s with heap := h'', toks := tk + 1 } :=
      I.turnedNew (ch := [e, it]) (fun b ob hb q => (sb.2 b (fun z => hb (by simp [z]))).trans (hk b ob (fun z => hb (by simp [z])) (fun z => hb (by simp [z])) q)) hf (Nat.le_refl _) new
    refine ⟨.ref s.heap.objs.size, _, I1, rfl, ⟨_, x, rfl, I.hok.fresh (Nat.le_refl _), rfl, fun ys hy => by rw [I.tuple_inj hy hq]; exact hx⟩, ⟨⟨x', ?_⟩, hst'.1.at fun o q => (sb.2 it (Ne.symm hne)).trans q, hne⟩, fun b hb => ?_⟩
    · have e1 : ((i + 1 : Nat) : Int) = (i : Int) + 1 := by omega
      rw [e1]; exact he'
    · have hb' : b < s.heap.objs.size := by
        have e' : b = e ∨ b = it := by simpa using hb
        rcases e' with z | z
        · rw [z]; exact hel
        · rw [z]; exact hil
      rw [upd_ne (Nat.ne_of_lt hb')]
      exact (hf b hb).1
  done := by
    intro X hP hw hK hc i pins s σ H E I hf st hg
    subst hP hw hK
    obtain ⟨⟨old, he⟩, hit, hne⟩ := st
    obtain ⟨xs, hq, hx⟩ := hg
    obtain ⟨its, rv, p, hz⟩ := I.tuple hq
    obtain ⟨f0, f1, f2, f3, f4, f5⟩ := hf it (by simp)
    have D := Draws.tuple (prog := X.prog) (w := X.w) (A := X.A.in1) (I.ok.hd hc) it a hae its.toArray
    have hl : its.toArray.size = i := by rw [List.size_toArray, ← rv.length]; exact hx
    subst hl
    exact wpAny_pyNext_enum_endD D he ⟨hit, p⟩ fun h' eb => ⟨rfl, I.turned (t' := s.toks) (fun b o hb q => eb b o hb q) f0 f1 f3 f4 f5⟩
  self := fun A i s Q E st h => let ⟨⟨_, he⟩, _⟩ := st; wpAny_pyIter_enum he h
/-! ### what is walked -/
section
/-- what comes at a turn -/
inductive Yld (K : PySem.W.Frag) (Hf H : Hp) : V → Dat → Hp → Prop
  | old {x : V} {d : Dat} : Den K Hf x d → Yld K Hf H x d H
  | new {T : Addr} {vs : List V} {ds : List Dat} : H T = none → Dens K Hf vs ds → Yld K Hf H (.ref T) (.tuple ds) (upd H T (.tup vs))
def IterOf (K : PySem.W.Frag) (Hf : Hp) (J : It) (items : List Dat) : Prop := ∀ Hf2 H2, Ex Hf Hf2 → Ex Hf2 H2 → ∀ i,
  (∀ d, items[i]? = some d → J.go i H2 ∧ ∀ x H3, J.yld i H2 x H3 → Yld K Hf2 H2 x d H3) ∧ (i = items.length → J.stop i H2)
abbrev MI := Env → Option (List Dat × Env)
def tI (K : PySem.W.Frag) (m : MI) : TI := fun σ H R => ∃ B Hf Γ ps items Γ', Reach K B Hf H σ Γ ps ∧ m Γ = some (items, Γ') ∧ ∀ J Hf' H', Reach K B Hf' H' σ Γ' ps → IterOf K Hf' J items → R J H'
variable {X : Cx} {K : PySem.W.Frag} {a b c e tg : Expr} {ma mb mc : M} {pos : Pos} {k : Nat}
theorem PI.imp {iter : Expr} {t t' : TI} (h : PI X tg iter t) (i : ∀ σ H Q, t' σ H Q → t σ H Q) : PI X tg iter t' := ⟨fun pins s σ H Q I q => h.run pins s σ H Q I (i σ H Q q)⟩
theorem yld_ok {B : Base} {Hf H H3 : Hp} {σ : St} {Γ : Env} {ps : List Pend} {x : V} {d : Dat} (R : Reach K B Hf H σ Γ ps) (y : Yld K Hf H x d H3) : ∃ Hf3, Ex Hf Hf3 ∧ Reach K B Hf3 H3 σ Γ (⟨x, .d d, []⟩ :: ps) := by
  obtain ⟨f, R⟩ := R
  cases y with
  | old h => exact ⟨Hf, Evl.Ex.refl _, f, R.pushD h⟩
  | new h1 h2 => exact ⟨_, ex_upd (Evl.fresh_back R.sub h1), f, R.newT h1 h2⟩
def mSeqI (m : M) : MI := fun Γ => (m Γ).bind fun p => (settle p.2 p.1).bind fun q => (seqOf q.1).bind fun l => some (l.2, q.2)
def iSeq (K : PySem.W.Frag) (tl : TE) : TI := fun σ H R => tl σ H fun x H1 => ∃ a, x = .ref a ∧ (((∃ xs, SqL K H1 a xs) ∧ R (Itl K a) H1) ∨ ((∃ xs, SqT K H1 a xs) ∧ R (Itt K a) H1))
theorem pi_seq {l : Expr} {tl : TE} (hl : PE X l tl) : PI X tg l (iSeq X.K tl) := by
  refine ⟨fun pins s σ H R I h => ?_⟩
  refine thn (hl.run pins s σ H _ I h) fun v s1 ⟨x, H1, I1, r1, q1⟩ => ?_
  obtain ⟨a, e, q⟩ := q1
  subst e
  cases r1
  have f1 : ∀ b, b ∈ [s1.heap.objs.size] → FpOk X pins H1 b := fun b hb => by
    have e : b = s1.heap.objs.size := by simpa using hb
    subst e
    exact I1.fpOk (Nat.le_refl _) (I1.hok.fresh (Nat.le_refl _))
  rcases q with ⟨⟨xs, hq⟩, q⟩ | ⟨⟨xs, hq⟩, q⟩
  · obtain ⟨its, rv, p, hz⟩ := I1.list hq
    refine wpAny_pyIter_list p.isList ?_
    exact ⟨s1.heap.objs.size, [s1.heap.objs.size], _, _, H1, rfl, I1.kept (t' := s1.toks) fun b o e => Heap.get?_push_of_some _ e, turn_list a _, ⟨_, Heap.get?_push_size _ rfl, rfl, rfl⟩, f1, q⟩
  · obtain ⟨its, rv, p, hz⟩ := I1.tuple hq
    refine wpAny_pyIter_tuple (show s1.heap.IsTuple a its.toArray from p) ?_
    exact ⟨s1.heap.objs.size, [s1.heap.objs.size], _, _, H1, rfl, I1.kept (t' := s1.toks) fun b o e => Heap.get?_push_of_some _ e, turn_tuple a _, ⟨_, Heap.get?_push_size _ rfl, rfl, rfl⟩, f1, q⟩
theorem iterL {Hf : Hp} {a : Addr} {xs : List V} {ds : List Dat} (h : SqL K Hf a xs) (d : Dens K Hf xs ds) : IterOf K Hf (Itl K a) ds := by
  intro Hf2 H2 e1 e2 i
  have h2 : SqL K H2 a xs := Evl.ex_l (e1.trans e2) h
  refine ⟨fun z hz => ?_, fun hl => ⟨xs, h2, by rw [d.length]; exact Nat.le_of_eq hl.symm⟩⟩
  obtain ⟨x, hx, dx⟩ := d.getD hz
  refine ⟨⟨xs, x, h2, hx⟩, fun y H3 hy => ?_⟩
  obtain ⟨rfl, hy⟩ := hy
  have := hy xs h2
  rw [hx] at this
  cases this
  exact .old (dx.mono e1)
theorem iterT {Hf : Hp} {a : Addr} {xs : List V} {ds : List Dat} (h : SqT K Hf a xs) (d : Dens K Hf xs ds) : IterOf K Hf (Itt K a) ds := by
  intro Hf2 H2 e1 e2 i
  have h2 : SqT K H2 a xs := Evl.ex_t (e1.trans e2) h
  refine ⟨fun z hz => ?_, fun hl => ⟨xs, h2, by rw [d.length]; exact Nat.le_of_eq hl.symm⟩⟩
  obtain ⟨x, hx, dx⟩ := d.getD hz
  refine ⟨⟨xs, x, h2, hx⟩, fun y H3 hy => ?_⟩
  obtain ⟨rfl, hy⟩ := hy
  have := hy xs h2
  rw [hx] at this
  cases this
  exact .old (dx.mono e1)
/-- frozen sequences -/
theorem Den.seqF {Hf : Hp} {v : V} {d : Dat} {b : Bool} {l : List Dat} (h : Den K Hf v d) (e : seqOf d = some (b, l)) : ∃ a xs, v = .ref a ∧ Dens K Hf xs l ∧ ((b = true ∧ SqL K Hf a xs) ∨ (b = false ∧ SqT K Hf a xs)) := by
  obtain ⟨a, xs, q1, q2, q3⟩ := h.items (Evl.Ex.refl _) e
  refine ⟨a, xs, q1, q3, ?_⟩
  cases b with
  | true => exact .inl ⟨rfl, .inl (by simpa using q2)⟩
  | false => exact .inr ⟨rfl, by simpa using q2⟩
theorem di_seq (ha : PE X a (tM X.K ma)) : PI X tg a (tI X.K (mSeqI ma)) := PI.imp (pi_seq ha) fun σ H Q h => by
  obtain ⟨B, Hf, Γ, ps, r, Γ', R, e, k⟩ := h
  obtain ⟨⟨s1, Γ1⟩, e1, e⟩ := bindE e
  obtain ⟨⟨d, Γ2⟩, e2, e⟩ := bindE e
  obtain ⟨⟨bb, l⟩, e3, e⟩ := bindE e
  cases e
  refine ⟨B, Hf, Γ, ps, s1, Γ1, R, e1, fun x fp1 Hf1 H1 R1 => ?_⟩
  obtain ⟨Hf2, _, f2, R2⟩ := R1.settle e2
  obtain ⟨p, xs, rfl, dx, q⟩ := Den.seqF (R2.pend _ List.mem_cons_self).2 e3
  refine ⟨p, rfl, ?_⟩
  rcases q with ⟨_, q⟩ | ⟨_, q⟩
  · exact .inl ⟨⟨xs, Evl.ex_l R2.sub q⟩, k _ Hf2 H1 ⟨f2, R2.pop⟩ (iterL q dx)⟩
  · exact .inr ⟨⟨xs, Evl.ex_t R2.sub q⟩, k _ Hf2 H1 ⟨f2, R2.pop⟩ (iterT q dx)⟩
/-! ranges -/
def rngD (lo hi : Int) : List Dat := (List.range (hi - lo).toNat).map fun (i : Nat) => .int (lo + i)
def mRange1 (m : M) : MI := fun Γ => (m Γ).bind fun p => match p.1 with
  | .d (.int n) => if -(2 ^ 62) ≤ n ∧ n < 2 ^ 62 then some (rngD 0 n, p.2) else none
  | _ => none
theorem iterR {Hf : Hp} {lo hi : Int} : IterOf K Hf (Itr lo (hi - lo).toNat) (rngD lo hi) := by
  intro Hf2 H2 e1 e2 i
  refine ⟨fun z hz => ?_, fun hl => ?_⟩
  · unfold rngD at hz
    rw [List.getElem?_map, Option.map_eq_some_iff] at hz
    obtain ⟨j, hj, rfl⟩ := hz
    obtain ⟨hl, rfl⟩ : i < (hi - lo).toNat ∧ i = j := by
      obtain ⟨h1, h2⟩ := List.getElem?_eq_some_iff.mp hj
      rw [List.length_range] at h1
      rw [List.getElem_range] at h2
      exact ⟨h1, h2⟩
    refine ⟨hl, fun x H3 hy => ?_⟩
    obtain ⟨rfl, rfl⟩ := hy
    exact .old (.int _)
  · show (hi - lo).toNat ≤ i
    rw [hl]
    simp [rngD]
theorem di_range1 {p : Pos} (ha : PE X a (tM X.K ma)) (hm : X.mg "range" = none) (hg : Gl X "range" := by rfl) (hs : starEach [a] X.env = [(false, eval a X.env)] := by rfl) : PI X tg (.Call (.Name "range" p) [a] [] pos) (tI X.K (mRange1 ma)) :=
  PI.imp (pi_range1 hg hm (pa_cons ha pa_nil hs) hs) fun σ H Q h => by
    obtain ⟨B, Hf, Γ, ps, r, Γ', R, e, k⟩ := h
    obtain ⟨⟨s1, Γ1⟩, e1, e⟩ := bindE e
    refine ⟨B, Hf, Γ, ps, s1, Γ1, R, e1, fun x fp1 Hf1 H1 ⟨f, R1⟩ => ?_⟩
    revert e
    cases s1 with
    | d z =>
      cases z with
      | int n =>
        intro e
        simp only at e
        split at e
        · rename_i hn
          cases e
          have q := (R1.pend _ List.mem_cons_self).2
          cases q
          have := k _ Hf1 H1 ⟨f, R1.pop⟩ (iterR (lo := 0) (hi := n))
          rw [Int.sub_zero] at this
          exact ⟨n, rfl, hn.1, hn.2, this⟩
        · cases e
      | _ => intro e; cases e
    | _ => intro e; cases e
def mRange2 (ma mb : M) : MI := fun Γ => (ma Γ).bind fun p => (mb p.2).bind fun q => match p.1, q.1 with
  | .d (.int n), .d (.int m) => if (-(2 ^ 62) ≤ n ∧ n < 2 ^ 62) ∧ -(2 ^ 62) ≤ m ∧ m < 2 ^ 62 then some (rngD n m, q.2) else none
  | _, _ => none
theorem di_range2 {p : Pos} (ha : PE X a (tM X.K ma)) (hb : PE X b (tM X.K mb)) (hm : X.mg "range" = none) (hg : Gl X "range" := by rfl) (hs : starEach [a, b] X.env = [(false, eval a X.env), (false, eval b X.env)] := by rfl) (hs2 : starEach [b] X.env = [(false, eval b X.env)] := by rfl) :
    PI X tg (.Call (.Name "range" p) [a, b] [] pos) (tI X.K (mRange2 ma mb)) :=
  PI.imp (pi_range2 hg hm (pa_cons ha (pa_cons hb pa_nil hs2) (by rw [hs, hs2])) hs hs2) fun σ H Q h => by
    obtain ⟨B, Hf, Γ, ps, r, Γ', R, e, k⟩ := h
    obtain ⟨⟨s1, Γ1⟩, e1, e⟩ := bindE e
    obtain ⟨⟨s2, Γ2⟩, e2, e⟩ := bindE e
    refine ⟨B, Hf, Γ, ps, s1, Γ1, R, e1, fun x fp1 Hf1 H1 R1 => ⟨B, Hf1, Γ1, _, s2, Γ2, R1, e2, fun y fp2 Hf2 H2 ⟨f, R2⟩ => ?_⟩⟩
    simp only at e
    split at e
    · rename_i n m _ _
      split at e
      · rename_i hn
        cases e
        have q := (R2.pend _ List.mem_cons_self).2
        have q2 := (R2.pop.pend _ List.mem_cons_self).2
        cases q
        cases q2
        exact ⟨n, m, rfl, ⟨hn.1.1, hn.1.2, hn.2.1, hn.2.2⟩, k _ Hf2 H2 ⟨f, R2.pop.pop⟩ iterR⟩
      · cases e
    · cases e
/-! enumerate, zip -/
def enumL (l : List Dat) : List Dat := l.zipIdx.map fun p => .tuple [.int p.2, p.1]
theorem enumL_get {l : List Dat} {i : Nat} {z : Dat} (h : (enumL l)[i]? = some z) : ∃ d, l[i]? = some d ∧ z = .tuple [.int i, d] := by
  unfold enumL at h
  rw [List.getElem?_map, Option.map_eq_some_iff] at h
  obtain ⟨⟨d, j⟩, h1, rfl⟩ := h
  rw [List.getElem?_zipIdx] at h1
  cases e : l[i]? with
  | none => rw [e] at h1; cases h1
  | some d' =>
    rw [e] at h1
    simp only [Option.map_some, Option.some.injEq, Prod.mk.injEq] at h1
    obtain ⟨rfl, rfl⟩ := h1
    exact ⟨_, rfl, by rw [Nat.zero_add]⟩
theorem enumL_len (l : List Dat) : (enumL l).length = l.length := by simp [enumL]
def mEnum (m : M) : MI := fun Γ => (m Γ).bind fun p => (settle p.2 p.1).bind fun q => (seqOf q.1).bind fun l => some (enumL l.2, q.2)
def iEnumA (K : PySem.W.Frag) (ta : TA) : TI := fun σ H R => ta σ H fun vs H1 => ∃ a xs, vs = [.ref a] ∧ ((SqL K H1 a xs ∧ R (Ite K a) H1) ∨ (SqT K H1 a xs ∧ R (IteT K a) H1))
theorem pi_enumA {e : Expr} {ta : TA} {p pos tpos : Pos} {elts : List Expr} {kk : Nat} (hg : Gl X "enumerate") (hm : X.mg "enumerate" = none) (ha : PA X [e] ta) (hs : starEach [e] X.env = [(false, eval e X.env)] := by rfl) :
    PI X (.Tuple elts kk tpos) (.Call (.Name "enumerate" p) [e] [] pos) (iEnumA X.K ta) := by
  refine ⟨fun pins s σ H R I h => ?_⟩
  refine PyProof.Rows.Call_ (ld_blt I hg hm PyProof.Rows.boot_enumerate (PyProof.Rows.callWith_type1 (thn (ha.run pos pins s σ H _ I h) fun us s1 ⟨vs, H1, I1, r1, q1⟩ => ?_) hs rfl))
  obtain ⟨a, xs, ex, q⟩ := q1
  subst ex
  cases r1 with
  | cons r rr =>
    cases rr
    cases r
    have f1 : ∀ b, b ∈ [s1.heap.objs.size + 1, s1.heap.objs.size] → FpOk X pins H1 b := fun b hb => by
      have e' : b = s1.heap.objs.size + 1 ∨ b = s1.heap.objs.size := by simpa using hb
      have hle : s1.heap.objs.size ≤ b := by
        rcases e' with z | z
        · rw [z]; exact Nat.le_add_right _ _
        · rw [z]; exact Nat.le_refl _
      exact I1.fpOk hle (I1.hok.fresh hle)
    rcases q with ⟨hq, q⟩ | ⟨hq, q⟩
    · obtain ⟨its, rv, p', hz⟩ := I1.list hq
      refine call_enumerate_list p'.isList fun h' he hit hsz hk => wpAny_pyIter_enum he ?_
      have I2 : Inv X pins σ H1 { s1 with heap := h' } := I1.kept (t' := s1.toks) hk
      exact ⟨s1.heap.objs.size + 1, [s1.heap.objs.size + 1, s1.heap.objs.size], _, _, H1, rfl, I2, turn_enum a (s1.heap.objs.size + 1) s1.heap.objs.size, ⟨⟨.none, he⟩, hit, Nat.succ_ne_self _⟩, f1, q⟩
    · obtain ⟨its, rv, p', hz⟩ := I1.tuple hq
      refine dl_call_enumerate (begins_tuple a its.toArray) (show s1.heap.IsTuple a its.toArray from p') fun h' he hit hsz hk => wpAny_pyIter_enum he ?_
      have I2 : Inv X pins σ H1 { s1 with heap := h' } := I1.kept (t' := s1.toks) hk
      have hal : a < s1.heap.objs.size := p'.lt
      exact ⟨s1.heap.objs.size + 1, [s1.heap.objs.size + 1, s1.heap.objs.size], _, _, H1, rfl, I2, turn_enumT a (s1.heap.objs.size + 1) s1.heap.objs.size (Nat.ne_of_lt hal) (Nat.ne_of_lt (Nat.lt_succ_of_lt hal)), ⟨⟨.none, he⟩, ⟨_, hit, rfl, rfl⟩, Nat.succ_ne_self _⟩, f1, q⟩
theorem di_enum {p tpos : Pos} {elts : List Expr} {kk : Nat} (ha : PE X a (tM X.K ma)) (hm : X.mg "enumerate" = none) (hg : Gl X "enumerate" := by rfl) (hs : starEach [a] X.env = [(false, eval a X.env)] := by rfl) :
    PI X (.Tuple elts kk tpos) (.Call (.Name "enumerate" p) [a] [] pos) (tI X.K (mEnum ma)) := PI.imp (pi_enumA hg hm (pa_cons ha pa_nil hs) hs) fun σ H Q h => by
  obtain ⟨B, Hf, Γ, ps, r, Γ', R, e, k⟩ := h
  obtain ⟨⟨s1, Γ1⟩, e1, e⟩ := bindE e
  obtain ⟨⟨d, Γ2⟩, e2, e⟩ := bindE e
  obtain ⟨⟨bb, l⟩, e3, e⟩ := bindE e
  cases e
  refine ⟨B, Hf, Γ, ps, s1, Γ1, R, e1, fun x fp1 Hf1 H1 R1 => ?_⟩
  obtain ⟨Hf2, _, f2, R2⟩ := R1.settle e2
  obtain ⟨p, xs, rfl, dx, q⟩ := Den.seqF (R2.pend _ List.mem_cons_self).2 e3
  refine ⟨p, xs, rfl, ?_⟩
  rcases q with ⟨_, q⟩ | ⟨_, q⟩
  · refine .inl ⟨Evl.ex_l R2.sub q, k _ Hf2 H1 ⟨f2, R2.pop⟩ fun Hf3 H3 x1 x2 i => ?_⟩
    have h2 : SqL X.K H3 p xs := Evl.ex_l (x1.trans x2) q
    refine ⟨fun z hz => ?_, fun hl => ⟨xs, h2, by rw [dx.length, hl, enumL_len]; exact Nat.le_refl _⟩⟩
    obtain ⟨d', hd', rfl⟩ := enumL_get hz
    obtain ⟨y, hy, dy⟩ := dx.getD hd'
    refine ⟨⟨xs, y, h2, hy⟩, fun u H4 hu => ?_⟩
    obtain ⟨T, w, rfl, hT, rfl, hw⟩ := hu
    have := hw xs h2
    rw [hy] at this
    cases this
    exact .new hT (.cons (.int _) (.cons (dy.mono x1) .nil))
  · refine .inr ⟨Evl.ex_t R2.sub q, k _ Hf2 H1 ⟨f2, R2.pop⟩ fun Hf3 H3 x1 x2 i => ?_⟩
    have h2 : SqT X.K H3 p xs := Evl.ex_t (x1.trans x2) q
    refine ⟨fun z hz => ?_, fun hl => ⟨xs, h2, by rw [dx.length, hl, enumL_len]⟩⟩
    obtain ⟨d', hd', rfl⟩ := enumL_get hz
    obtain ⟨y, hy, dy⟩ := dx.getD hd'
    refine ⟨⟨xs, y, h2, hy⟩, fun u H4 hu => ?_⟩
    obtain ⟨T, w, rfl, hT, rfl, hw⟩ := hu
    have := hw xs h2
    rw [hy] at this
    cases this
    exact .new hT (.cons (.int _) (.cons (dy.mono x1) .nil))
def zipL (l1 l2 : List Dat) : List Dat := (l1.zip l2).map fun p => .tuple [p.1, p.2]
theorem zipL_get {l1 l2 : List Dat} {i : Nat} {z : Dat} (h : (zipL l1 l2)[i]? = some z) : ∃ d1 d2, l1[i]? = some d1 ∧ l2[i]? = some d2 ∧ z = .tuple [d1, d2] := by
  unfold zipL at h
  rw [List.getElem?_map, Option.map_eq_some_iff] at h
  obtain ⟨⟨d1, d2⟩, h1, rfl⟩ := h
  rw [List.getElem?_zip_eq_some] at h1
  exact ⟨d1, d2, h1.1, h1.2, rfl⟩
theorem zipL_len (l1 l2 : List Dat) : (zipL l1 l2).length = min l1.length l2.length := by simp [zipL]
def mZip (ma mb : M) : MI := fun Γ => (ma Γ).bind fun p => (settle p.2 p.1).bind fun p' => (mb p'.2).bind fun q => (settle q.2 q.1).bind fun q' => (seqOf p'.1).bind fun l1 => (seqOf q'.1).bind fun l2 =>
  if l1.1 = l2.1 then some (zipL l1.2 l2.2, q'.2) else none
theorem di_zip {p tpos : Pos} {elts : List Expr} {kk : Nat} (ha : PE X a (tM X.K ma)) (hb : PE X b (tM X.K mb)) (hm : X.mg "zip" = none) (hg : Gl X "zip" := by rfl) (hs : starEach [a, b] X.env = (false, eval a X.env) :: starEach [b] X.env := by rfl)
    (hs2 : starEach [b] X.env = (false, eval b X.env) :: starEach [] X.env := by rfl) (hpl : (backTo pos (starEach [b] X.env)).any (·.1) = false := by rfl) :
    PI X (.Tuple elts kk tpos) (.Call (.Name "zip" p) [a, b] [] pos) (tI X.K (mZip ma mb)) := PI.imp (RZ.pi_zipA hg hm (pa_cons ha (pa_cons hb pa_nil hs2) hs) hs hpl) fun σ H Q h => by
  obtain ⟨B, Hf, Γ, ps, r, Γ', R, e, k⟩ := h
  obtain ⟨⟨s1, Γ1⟩, e1, e⟩ := bindE e
  obtain ⟨⟨d1, Γ2⟩, e2, e⟩ := bindE e
  obtain ⟨⟨s2, Γ3⟩, e3, e⟩ := bindE e
  obtain ⟨⟨d2, Γ4⟩, e4, e⟩ := bindE e
  obtain ⟨⟨b1, l1⟩, e5, e⟩ := bindE e
  obtain ⟨⟨b2, l2⟩, e6, e⟩ := bindE e
  simp only at e
  split at e
  · rename_i hbb
    subst hbb
    cases e
    refine ⟨B, Hf, Γ, ps, s1, Γ1, R, e1, fun x fp1 Hf1 H1 R1 => ?_⟩
    obtain ⟨Hf2, _, R2⟩ := R1.settle e2
    refine ⟨B, Hf2, Γ2, _, s2, Γ3, R2, e3, fun y fp2 Hf3 H3 R3 => ?_⟩
    obtain ⟨Hf4, _, f4, R4⟩ := R3.settle e4
    obtain ⟨q, ys, rfl, dy, qy⟩ := Den.seqF (R4.pend _ List.mem_cons_self).2 e6
    obtain ⟨p, xs, rfl, dx, qx⟩ := Den.seqF (R4.pop.pend _ List.mem_cons_self).2 e5
    refine ⟨p, q, xs, ys, rfl, ?_⟩
    rcases qx with ⟨rfl, qx⟩ | ⟨rfl, qx⟩
    · rcases qy with ⟨_, qy⟩ | ⟨z, _⟩
      · refine .inl ⟨Evl.ex_l R4.sub qx, Evl.ex_l R4.sub qy, k _ Hf4 H3 ⟨f4, R4.pop.pop⟩ fun Hf5 H5 x1 x2 i => ?_⟩
        have h1 : SqL X.K H5 p xs := Evl.ex_l (x1.trans x2) qx
        have h2 : SqL X.K H5 q ys := Evl.ex_l (x1.trans x2) qy
        refine ⟨fun z hz => ?_, fun hl => ⟨xs, ys, h1, h2, by rw [dx.length, dy.length, hl, zipL_len]; omega⟩⟩
        obtain ⟨u1, u2, hu1, hu2, rfl⟩ := zipL_get hz
        obtain ⟨v1, hv1, w1⟩ := dx.getD hu1
        obtain ⟨v2, hv2, w2⟩ := dy.getD hu2
        refine ⟨⟨xs, ys, v1, v2, h1, h2, hv1, hv2⟩, fun u H6 hu => ?_⟩
        obtain ⟨T, c1, c2, rfl, hT, rfl, hc1, hc2⟩ := hu
        have g1 := hc1 xs h1
        have g2 := hc2 ys h2
        rw [hv1] at g1
        rw [hv2] at g2
        cases g1
        cases g2
        exact .new hT (.cons (w1.mono x1) (.cons (w2.mono x1) .nil))
      · cases z
    · rcases qy with ⟨z, _⟩ | ⟨_, qy⟩
      · cases z
      · refine .inr ⟨Evl.ex_t R4.sub qx, Evl.ex_t R4.sub qy, k _ Hf4 H3 ⟨f4, R4.pop.pop⟩ fun Hf5 H5 x1 x2 i => ?_⟩
        have h1 : SqT X.K H5 p xs := Evl.ex_t (x1.trans x2) qx
        have h2 : SqT X.K H5 q ys := Evl.ex_t (x1.trans x2) qy
        refine ⟨fun z hz => ?_, fun hl => ⟨xs, ys, h1, h2, by rw [dx.length, dy.length, hl, zipL_len]; omega⟩⟩
        obtain ⟨u1, u2, hu1, hu2, rfl⟩ := zipL_get hz
        obtain ⟨v1, hv1, w1⟩ := dx.getD hu1
        obtain ⟨v2, hv2, w2⟩ := dy.getD hu2
        refine ⟨⟨xs, ys, v1, v2, h1, h2, hv1, hv2⟩, fun u H6 hu => ?_⟩
        obtain ⟨T, c1, c2, rfl, hT, rfl, hc1, hc2⟩ := hu
        have g1 := hc1 xs h1
        have g2 := hc2 ys h2
        rw [hv1] at g1
        rw [hv2] at g2
        cases g1
        cases g2
        exact .new hT (.cons (w1.mono x1) (.cons (w2.mono x1) .nil))
  · cases e
end
end DL

set_option Elab.async false
set_option linter.all false
set_option maxRecDepth 100000
set_option maxHeartbeats 4000000
namespace DL
open PySem L2
variable [TabsC]
section
variable {X : Cx} {K : PySem.W.Frag} {a b c e tg iter elt : Expr} {ma mb mc me : M} {mt mu : MT} {mi : MI} {pos : Pos} {k : Nat} {es : List Expr} {W W2 : List Nat} {g : MG} {gs : MGs} {st : Stmt} {rest body : List Stmt} {m m1 m2 : MS}

/-! ### for -/
def forL (g : MG) (mb : MS) : List Dat → MS
  | [], Γ => some (.nx, Γ)
  | x :: xs, Γ => (g (.d x) Γ).bind fun Γ1 => (mb Γ1).bind fun p => match p.1 with
    | .nx => forL g mb xs p.2
    | .ct => forL g mb xs p.2
    | .bk => some (.nx, p.2)
    | .ret r => some (.ret r, p.2)
def mFor (mi : MI) (g : MG) (mb : MS) : MS := fun Γ => (mi Γ).bind fun p => forL g mb p.1 p.2
theorem ds_for (hp : PassesOwn (model X.prog X.w) X.A X.env X.xe) (hc : X.calm = true) (hi : PI X tg iter (tI X.K mi)) (hg : PG X tg (tG X.K W g)) (hb : PSs X body (tS X.K W2 m)) (hs : ∀ x, foldedSetIterable iter X.env x = pure x := by intro _; rfl) :
    PS X (.For tg iter body [] pos) (tS X.K (W ++ W2) (mFor mi g m)) := PS.imp (ps_for hp hc hi hg hb hs) fun D σ H h => by
  obtain ⟨B, Hf, Γ, fl, Γ', R, e, kk⟩ := h
  obtain ⟨⟨items, Γ1⟩, e1, e⟩ := bindE e
  simp only at e
  refine ⟨B, Hf, Γ, [], items, Γ1, R, e1, fun J Hf1 H1 ⟨f1, R1⟩ hJ => ?_⟩
  -- the loop, over a new base
  refine ⟨fun i j σ' H' => j = items.length - i ∧ i ≤ items.length ∧ Stay (W ++ W2) σ σ' ∧ ∃ Hf' Γi, Reach X.K ⟨Hf1, H1, fun a => ∃ i, a ∈ f1 i⟩ Hf' H' σ' Γi [] ∧ forL g m (items.drop i) Γi = some (fl, Γ'),
    ⟨_, rfl, Nat.zero_le _, Stay.refl _ _, Hf1, Γ1, ⟨f1, R1.base⟩, e⟩, ?_⟩
  rintro i j σ2 H2 ⟨rfl, hil, s2, Hf2, Γ2, ⟨f2, R2⟩, e2⟩
  by_cases hlt : i < items.length
  · have hgo := hJ Hf2 H2 R2.ex R2.sub i
    have hx : items[i]? = some items[i] := by simp [hlt]
    obtain ⟨go, yl⟩ := hgo.1 _ hx
    rw [List.drop_eq_getElem_cons hlt] at e2
    obtain ⟨Γ3, e3, e2⟩ := bindE e2
    obtain ⟨⟨f4, Γ4⟩, e4, e2⟩ := bindE e2
    refine .inr ⟨go, fun σ' H' => Stay (W ++ W2) σ σ' ∧ ∃ Hf' Γi, Reach X.K ⟨Hf1, H1, fun a => ∃ i, a ∈ f1 i⟩ Hf' H' σ' Γi [] ∧ forL g m (items.drop (i + 1)) Γi = some (fl, Γ'), fun σ' H' ⟨q1, q2⟩ => ⟨_, by omega, rfl, hlt, q1, q2⟩, fun x H' hy => ?_⟩
    obtain ⟨Hf3, _, R3⟩ := yld_ok ⟨f2, R2⟩ (yl x H' hy)
    refine ⟨_, Hf3, Γ2, [], _, [], Γ3, R3, NoBor.nil, e3, fun σ3 Hf4 l3 s3 _ R4 => ?_⟩
    have st3 : Stay (W ++ W2) σ σ3 := s2.trans (s3.mono fun i hi => List.mem_append_left _ hi)
    have fin : ∀ {σ' Hf' H' Γ'' ps'}, Reach X.K ⟨Hf1, H1, fun a => ∃ i, a ∈ f1 i⟩ Hf' H' σ' Γ'' ps' → Reach X.K B Hf' H' σ' Γ'' ps' := fun ⟨f', R'⟩ => ⟨f', by have := R1.trans R' (.inl rfl); rwa [List.append_nil] at this⟩
    refine ⟨_, Hf4, Γ3, f4, Γ4, R4, e4, ?_⟩
    have st4 : ∀ {σ'}, Stay W2 σ3 σ' → Stay (W ++ W2) σ σ' := fun s => st3.trans (s.mono fun i hi => List.mem_append_right _ hi)
    cases f4 with
    | nx => exact fun σ' Hf' H' s R' => ⟨st4 s, Hf', Γ4, R', e2⟩
    | ct => exact fun σ' Hf' H' s R' => ⟨st4 s, Hf', Γ4, R', e2⟩
    | bk => cases e2; exact fun σ' Hf' H' s R' => kk σ' Hf' H' (st4 s) (fin R')
    | ret r => cases e2; exact fun σ' v fp Hf' H' s R' => kk σ' v fp Hf' H' (st4 s) (fin R')
  · have hie : i = items.length := by omega
    have hgo := hJ Hf2 H2 R2.ex R2.sub i
    refine .inl ⟨hgo.2 hie, ?_⟩
    rw [hie, List.drop_length] at e2
    cases e2
    have := R1.trans R2 (.inl rfl)
    rw [List.append_nil] at this
    exact kk σ2 Hf2 H2 s2 ⟨f2, this⟩

/-! ### comprehensions -/
def wipeE (Γ : Env) : List Nat → Env
  | [] => Γ
  | v :: vs => (wipeE Γ vs).set v .no
def putE (Γ Γ0 : Env) : List Nat → Env
  | [] => Γ
  | v :: vs => match Γ0[v]? with
    | some g => (putE Γ Γ0 vs).set v g
    | none => putE Γ Γ0 vs
def plainS : Slot → Bool
  | .no => true
  | .d _ => true
  | .fn _ => true
  | _ => false
/-- nothing is owned at these slots -/
def plainAt (Γ : Env) (vs : List Nat) : Bool := vs.all fun v => match Γ[v]? with
  | some s => plainS s
  | none => false
def lcL (g : MG) (mt : MT) (me : M) (vs : List Nat) : List Dat → List Dat → Env → Option (List Dat × Env)
  | [], acc, Γ => some (acc, Γ)
  | x :: xs, acc, Γ => (g (.d x) Γ).bind fun Γ1 => (mt Γ1).bind fun p => if p.1 then
      (me p.2).bind fun q => (settle q.2 q.1).bind fun s => if acc.length < lim then lcL g mt me vs xs (acc ++ [s.1]) (wipeE s.2 vs) else none
    else lcL g mt me vs xs acc (wipeE p.2 vs)
def mLc (mi : MI) (g : MG) (mt : MT) (me : M) (vs : List Nat) : M := fun Γ => (mi Γ).bind fun p => if plainAt p.2 vs then
    (lcL g mt me vs p.1 [] (wipeE p.2 vs)).bind fun q => some (.own (.lst q.1), putE q.2 p.2 vs) else none
theorem wipeE_len (Γ : Env) : ∀ vs, (wipeE Γ vs).length = Γ.length
  | [] => rfl
  | v :: vs => by unfold wipeE; rw [List.length_set, wipeE_len Γ vs]
theorem putE_len (Γ Γ0 : Env) : ∀ vs, (putE Γ Γ0 vs).length = Γ.length
  | [] => rfl
  | v :: vs => by
    unfold putE
    split
    · rw [List.length_set, putE_len Γ Γ0 vs]
    · exact putE_len Γ Γ0 vs
theorem wipeE_get {Γ : Env} {i : Nat} {s : Slot} : ∀ {vs : List Nat}, (wipeE Γ vs)[i]? = some s → (i ∉ vs ∧ Γ[i]? = some s) ∨ (i ∈ vs ∧ s = .no)
  | [], h => .inl ⟨by simp, h⟩
  | v :: vs, h => by
    unfold wipeE at h
    by_cases hv : v = i
    · subst hv
      have hl : v < (wipeE Γ vs).length := by
        have := (List.getElem?_eq_some_iff.mp h).1
        rwa [List.length_set] at this
      rw [List.getElem?_set_self hl] at h
      cases h
      exact .inr ⟨by simp, rfl⟩
    · rw [List.getElem?_set_ne hv] at h
      rcases wipeE_get h with ⟨q1, q2⟩ | ⟨q1, q2⟩
      · exact .inl ⟨by simp only [List.mem_cons, not_or]; exact ⟨fun z => hv z.symm, q1⟩, q2⟩
      · exact .inr ⟨List.mem_cons_of_mem _ q1, q2⟩
theorem putE_get {Γ Γ0 : Env} {i : Nat} {s : Slot} : ∀ {vs : List Nat}, (putE Γ Γ0 vs)[i]? = some s → ((i ∉ vs ∨ Γ0[i]? = none) ∧ Γ[i]? = some s) ∨ (i ∈ vs ∧ Γ0[i]? = some s)
  | [], h => .inl ⟨.inl (by simp), h⟩
  | v :: vs, h => by
    unfold putE at h
    split at h
    · rename_i g hg
      by_cases hv : v = i
      · subst hv
        have hl : v < (putE Γ Γ0 vs).length := by
          have := (List.getElem?_eq_some_iff.mp h).1
          rwa [List.length_set] at this
        rw [List.getElem?_set_self hl] at h
        cases h
        exact .inr ⟨by simp, hg⟩
      · rw [List.getElem?_set_ne hv] at h
        rcases putE_get h with ⟨q1, q2⟩ | ⟨q1, q2⟩
        · refine .inl ⟨?_, q2⟩
          rcases q1 with q1 | q1
          · exact .inl (by simp only [List.mem_cons, not_or]; exact ⟨fun z => hv z.symm, q1⟩)
          · exact .inr q1
        · exact .inr ⟨List.mem_cons_of_mem _ q1, q2⟩
    · rename_i hg
      rcases putE_get h with ⟨q1, q2⟩ | ⟨q1, q2⟩
      · refine .inl ⟨?_, q2⟩
        rcases q1 with q1 | q1
        · by_cases hv : v = i
          · subst hv; exact .inr hg
          · exact .inl (by simp only [List.mem_cons, not_or]; exact ⟨fun z => hv z.symm, q1⟩)
        · exact .inr q1
      · exact .inr ⟨List.mem_cons_of_mem _ q1, q2⟩
theorem wipe_get {σ : St} {i : Nat} : ∀ {vs : List Nat}, i ∉ vs → (wipe σ vs)[i]? = σ[i]? := L2.wipe_out
theorem wipe_stay {σ σ' : St} : ∀ {vs : List Nat}, σ'.length = σ.length → Stay vs σ σ' → wipe σ' vs = wipe σ vs := by
  intro vs hl hs
  refine List.ext_getElem? fun i => ?_
  by_cases hi : i ∈ vs
  · -- both none there (or both out of range)
    have key : ∀ (τ : St) (us : List Nat), i ∈ us → (wipe τ us)[i]? = if i < τ.length then some none else none := by
      intro τ us
      induction us with
      | nil => intro h; cases h
      | cons u us ih =>
        intro h
        unfold wipe
        by_cases hu : u = i
        · subst hu
          rw [List.getElem?_set]
          simp [wipe_length]
        · rw [List.getElem?_set_ne hu]
          exact ih (by simpa [Ne.symm hu] using h)
    rw [key _ _ hi, key _ _ hi, hl]
  · rw [wipe_get hi, wipe_get hi]
    exact hs i hi
/-- a block's slots are forgotten ahead of its turns -/
theorem ReachF.wiped {B : Base} {Hf H : Hp} {σ : St} {Γ : Env} {f : Nat → List Addr} {ps : List Pend} (R : ReachF K B Hf H σ Γ f ps) (nb : NoBor ps) (vs : List Nat) : Reach K B Hf H (wipe σ vs) (wipeE Γ vs) ps := by
  refine R.remap (wipe_length _ _) (wipeE_len _ _) nb fun i s h => ?_
  rcases wipeE_get h with ⟨q1, q2⟩ | ⟨q1, rfl⟩
  · exact .inl ⟨q2, wipe_get q1⟩
  · exact .inr ⟨rfl, by intro o z; cases z⟩
theorem lc_imp {vs : List Nat} {σ : St} {H : Hp} {Q : VK} (h : tM K (mLc mi g mt me vs) σ H Q) : tLc (tI K mi) (tG K vs g) (tT K mt) (tM K me) vs σ H Q := by
  obtain ⟨B, Hf, Γ, ps, r, Γ', R, e, kk⟩ := h
  obtain ⟨⟨items, Γ1⟩, e1, e⟩ := bindE e
  simp only at e
  split at e
  · rename_i hpl
    obtain ⟨⟨res, Γ2⟩, e2, e⟩ := bindE e
    cases e
    refine ⟨B, Hf, Γ, ps, items, Γ1, R, e1, fun J Hf1 H1 ⟨f1, R1⟩ hJ => ?_⟩
    intro D hD
    have RB := R1.base
    obtain ⟨fw, RW⟩ := (RB.newL (ds := []) (xs := []) hD .nil).wiped (by intro p hp j z; simp only [List.mem_singleton] at hp; subst hp; cases z) vs
    refine ⟨fun i j H' => j = items.length - i ∧ i ≤ items.length ∧ ∃ Hf' Γi acc, Reach K ⟨Hf1, H1, fun a => ∃ i, a ∈ f1 i⟩ Hf' H' (wipe σ vs) Γi [⟨.ref D, .own (.lst acc), [D]⟩] ∧ lcL g mt me vs (items.drop i) acc Γi = some (res, Γ2),
      ⟨_, rfl, Nat.zero_le _, Hf1, _, [], ⟨fw, RW⟩, e2⟩, ?_⟩
    rintro i j H2 ⟨rfl, hil, Hf2, Γi, acc, ⟨f2, R2⟩, e3⟩
    have nbD : ∀ acc', NoBor [⟨.ref D, .own (.lst acc'), [D]⟩] := fun acc' p hp j z => by simp only [List.mem_singleton] at hp; subst hp; cases z
    by_cases hlt : i < items.length
    · have hx : items[i]? = some items[i] := by simp [hlt]
      obtain ⟨go, yl⟩ := (hJ Hf2 H2 R2.ex R2.sub i).1 _ hx
      rw [List.drop_eq_getElem_cons hlt] at e3
      obtain ⟨Γ3, e4, e3⟩ := bindE e3
      obtain ⟨⟨b5, Γ5⟩, e5, e3⟩ := bindE e3
      refine .inr ⟨go, fun H' => ∃ Hf' Γi acc, Reach K ⟨Hf1, H1, fun a => ∃ i, a ∈ f1 i⟩ Hf' H' (wipe σ vs) Γi [⟨.ref D, .own (.lst acc), [D]⟩] ∧ lcL g mt me vs (items.drop (i + 1)) acc Γi = some (res, Γ2), fun H' q => ⟨_, by omega, rfl, hlt, q⟩, fun x H' hy => ?_⟩
      obtain ⟨Hf3, _, R3⟩ := yld_ok ⟨f2, R2⟩ (yl x H' hy)
      refine ⟨_, Hf3, Γi, _, _, [], Γ3, R3, nbD _, e4, fun σ3 Hf4 l3 s3 _ R4 => ⟨?_, ?_⟩⟩
      · rw [wipe_stay l3 s3]
        exact wipe_stay (by rw [wipe_length]) fun j hj => wipe_get hj
      · have ew : wipe σ3 vs = wipe σ vs := by
          rw [wipe_stay l3 s3]
          exact wipe_stay (by rw [wipe_length]) fun j hj => wipe_get hj
        refine ⟨_, Hf4, Γ3, _, b5, Γ5, R4, e5, fun Hf5 H5 R5 => ?_⟩
        cases b5 with
        | false =>
          simp only [Bool.false_eq_true, if_false] at e3 ⊢
          obtain ⟨f5, R5⟩ := R5
          have := R5.wiped (nbD _) vs
          rw [ew] at this
          exact ⟨Hf5, _, acc, this, e3⟩
        | true =>
          simp only [if_true] at e3 ⊢
          obtain ⟨⟨s6, Γ6⟩, e6, e3⟩ := bindE e3
          obtain ⟨⟨d7, Γ7⟩, e7, e3⟩ := bindE e3
          simp only at e3
          split at e3
          · rename_i hal
            refine ⟨_, Hf5, Γ5, _, s6, Γ6, R5, e6, fun y fp H6f H6 R6 => ?_⟩
            obtain ⟨Hf7, _, f7, R7⟩ := R6.settle e7
            have dy := (R7.pend _ List.mem_cons_self).2
            have R8 := R7.pop
            obtain ⟨a, ea, efp, hfD, accV, hDa, dacc⟩ : ∃ a, V.ref D = .ref a ∧ [D] = [a] ∧ Hf7 a = none ∧ ∃ xs, H6 a = some (.lst xs) ∧ Dens K Hf7 xs acc := (R8.pend _ List.mem_cons_self)
            cases ea
            refine ⟨accV, hDa, by rw [dacc.length]; exact Nat.lt_of_lt_of_le hal lim_le, ?_⟩
            have R9 := R8.writeP (o' := .lst (acc ++ [d7])) (u := .lst (accV ++ [y])) ⟨rfl, hfD, _, upd_same, dacc.append (.cons dy .nil)⟩
            have := R9.wiped (nbD _) vs
            rw [ew] at this
            exact ⟨Hf7, _, _, this, e3⟩
          · cases e3
    · have hie : i = items.length := by omega
      refine .inl ⟨(hJ Hf2 H2 R2.ex R2.sub i).2 hie, ?_⟩
      rw [hie, List.drop_length] at e3
      cases e3
      have hp : ∀ v ∈ vs, ∃ s, Γ1[v]? = some s ∧ plainS s = true := fun v hv => by
        have := List.all_eq_true.mp hpl v hv
        split at this
        · rename_i s hs; exact ⟨s, hs, this⟩
        · cases this
      obtain ⟨f3, R3⟩ := R2.remap (σ' := σ) (Γ' := putE Γ2 Γ1 vs) (by rw [wipe_length]) (putE_len _ _ _) (nbD _) fun i s h => by
        rcases putE_get h with ⟨q1, q2⟩ | ⟨q1, q2⟩
        · rcases q1 with q1 | q1
          · exact .inl ⟨q2, (wipe_get q1).symm⟩
          · by_cases hi : i ∈ vs
            · obtain ⟨s', hs', _⟩ := hp i hi
              rw [q1] at hs'
              cases hs'
            · exact .inl ⟨q2, (wipe_get hi).symm⟩
        · obtain ⟨s', hs', hpl'⟩ := hp i q1
          rw [q2] at hs'
          cases hs'
          have q := R1.slot i _ q2
          refine .inr ⟨?_, by intro o z; subst z; cases hpl'⟩
          cases s with
          | no => rfl
          | d x => obtain ⟨_, v, q3, q4⟩ := q; exact ⟨rfl, v, q3, q4.mono R2.ex⟩
          | fn a => exact ⟨rfl, q.2⟩
          | z ds => obtain ⟨_, v, q3, q4⟩ := q; exact ⟨rfl, v, q3, q4.mono R2.ex⟩
          | own o => cases hpl'
          | bor j => cases hpl'
      have R4 := R1.trans R3 (.inr rfl)
      exact kk (.ref D) [D] Hf2 H2 ⟨f3, R4⟩
  · cases e
/-- the tests of a block: none or one -/
def mYes : MT := fun Γ => some (true, Γ)
theorem dts_nil : PTs X [] (tT X.K mYes) := ⟨fun pins s σ H Q I h => pts_nil.run pins s σ H Q I (by
  obtain ⟨B, Hf, Γ, ps, r, Γ', R, e, kk⟩ := h
  cases e
  exact kk Hf H R)⟩
theorem dts_one (hc : PT X c (tT X.K mt)) : PTs X [c] (tT X.K mt) := pts_one hc
variable {ifs : List Expr} {scope : Scope} {own : List (Str × Nat)}
theorem d_lc (hc : Cok k X) (hi : PI X tg iter (tI X.K mi)) (ok : BlkOk X.N X.env.scope scope own)
    (hg : ∀ (s : Shared) (H : Hp) (C : Addr) (cl : List (Str × Addr)) (fp : List Addr), PG (X.blk s H scope (compEnvC scope cl C X.env) fp) tg (tG X.K (own.map (·.2)) g))
    (ht : ∀ (s : Shared) (H : Hp) (C : Addr) (cl : List (Str × Addr)) (fp : List Addr), PTs (X.blk s H scope (compEnvC scope cl C X.env) fp) ifs (tT X.K mt))
    (he : ∀ (s : Shared) (H : Hp) (C : Addr) (cl : List (Str × Addr)) (fp : List Addr), PE (X.blk s H scope (compEnvC scope cl C X.env) fp) elt (tM X.K me)) (hs : ∀ x, foldedSetIterable iter X.env x = pure x := by intro _; rfl) :
    PE X (.ListComp elt [⟨tg, iter, ifs, 0⟩] scope pos) (tM X.K (mLc mi g mt me (own.map (·.2)))) := PE.imp (pe_lc hc.calm hc.nd hi ok hg ht he hs) fun _ _ _ => lc_imp
/-- name = [..] on one line -/
theorem ds_setLc (i : Nat) {y : Str} {py spos : Pos} (hc : Cok k X) (hi : PI X tg iter (tI X.K mi)) (ok : BlkOk X.N X.env.scope scope own)
    (hg : ∀ (s : Shared) (H : Hp) (C : Addr) (cl : List (Str × Addr)) (fp : List Addr), PG (X.blk s H scope (compEnvC scope cl C X.env) fp) tg (tG X.K (own.map (·.2)) g))
    (ht : ∀ (s : Shared) (H : Hp) (C : Addr) (cl : List (Str × Addr)) (fp : List Addr), PTs (X.blk s H scope (compEnvC scope cl C X.env) fp) ifs (tT X.K mt))
    (he : ∀ (s : Shared) (H : Hp) (C : Addr) (cl : List (Str × Addr)) (fp : List Addr), PE (X.blk s H scope (compEnvC scope cl C X.env) fp) elt (tM X.K me))
    (hyl : X.env.scope.names.lookup y = some .local) (hsw : swapsWith (.ListComp elt [⟨tg, iter, ifs, 0⟩] scope pos) (some (.Name y py)) spos.line X.env = pure true) (hy : X.N[i]? = some y := by rfl) (hs : ∀ x, foldedSetIterable iter X.env x = pure x := by intro _; rfl) :
    PS X (.Assign [.Name y py] (.ListComp elt [⟨tg, iter, ifs, 0⟩] scope pos) spos) (tS X.K [i] (mSet (setS i) (mLc mi g mt me (own.map (·.2))))) := PS.imp (ps_setLc hc.calm hc.nd hy hyl hsw hi ok hg ht he hs) fun _ _ _ h => set_imp (fun _ _ _ q => lc_imp q) h

/-! ### calls of defs -/
def mA0 : MA := fun Γ => some ([], Γ)
def mAc (m : M) (mr : MA) : MA := fun Γ => (m Γ).bind fun p => (mr p.2).bind fun q => some (p.1 :: q.1, q.2)
/-- held values, the first of them deepest -/
inductive HeldL : List V → List Slot → List Pend → Prop
  | nil : HeldL [] [] []
  | cons {vs : List V} {ss : List Slot} {ps : List Pend} {v : V} {s : Slot} {fp : List Addr} : HeldL vs ss ps → HeldL (v :: vs) (s :: ss) (ps ++ [⟨v, s, fp⟩])
def tAr (K : PySem.W.Frag) (m : MA) : TA := fun σ H Q => ∃ B Hf Γ ps r Γ', Reach K B Hf H σ Γ ps ∧ m Γ = some (r, Γ') ∧ ∀ vs qs Hf' H', HeldL vs r qs → Reach K B Hf' H' σ Γ' (qs ++ ps) → Q vs H'
theorem dr_nil : PA X [] (tAr X.K mA0) := PA.imp pa_nil fun σ H Q h => by
  obtain ⟨B, Hf, Γ, ps, r, Γ', R, e, kk⟩ := h
  cases e
  exact kk [] [] Hf H .nil R
theorem dr_cons {mr : MA} (ha : PE X a (tM X.K ma)) (hr : PA X es (tAr X.K mr)) (hs : starEach (a :: es) X.env = (false, eval a X.env) :: starEach es X.env := by rfl) : PA X (a :: es) (tAr X.K (mAc ma mr)) := PA.imp (pa_cons ha hr hs) fun σ H Q h => by
  obtain ⟨B, Hf, Γ, ps, r, Γ', R, e, kk⟩ := h
  obtain ⟨⟨s1, Γ1⟩, e1, e⟩ := bindE e
  obtain ⟨⟨l, Γ2⟩, e2, e⟩ := bindE e
  cases e
  refine ⟨B, Hf, Γ, ps, s1, Γ1, R, e1, fun x fp Hf1 H1 R1 => ⟨B, Hf1, Γ1, _, l, Γ2, R1, e2, fun vs qs Hf2 H2 hd R2 => kk (x :: vs) (qs ++ [⟨x, s1, fp⟩]) Hf2 H2 (.cons hd) (by rw [List.append_assoc]; exact R2)⟩⟩
/-- what a def does, on slots: the arguments, the result and the arguments behind -/
abbrev FS := List Slot → Option (Slot × List Slot)
/-- an argument as the callee takes it -/
def argS (Γ : Env) : Slot → Option Slot
  | .d x => some (.d x)
  | .own o => some (.own o)
  | .fn a => some (.fn a)
  | .bor i => match Γ[i]? with
    | some (.own o) => some (.own o)
    | some (.d x) => some (.d x)
    | _ => none
  | .no => none
  | .z _ => none
def argsS (Γ : Env) : List Slot → Option (List Slot)
  | [] => some []
  | s :: r => (argS Γ s).bind fun t => (argsS Γ r).bind fun q => some (t :: q)
/-- what was lent comes back -/
def backS (Γ : Env) : List Slot → List Slot → Env
  | .bor i :: r, t :: q => backS (Γ.set i t) r q
  | _ :: r, _ :: q => backS Γ r q
  | _, _ => Γ
def borIx : List Slot → List Nat
  | [] => []
  | .bor i :: r => i :: borIx r
  | _ :: r => borIx r
def mCall (n : Nat) (F : FS) (ma : MA) : M := fun Γ => (ma Γ).bind fun p => (argsS p.2 p.1).bind fun args => if p.1.length = n ∧ (borIx p.1).Nodup then (F args).bind fun q => if keepable q.1 = true ∧ q.2.length = args.length then some (q.1, backS p.2 p.1 q.2) else none else none
/-- a def's promise by what it does -/
def spF (K : PySem.W.Frag) (n : Nat) (F : FS) : Sp := fun vs H Q _ => vs.length = n ∧ ∃ Hf args f r args', ReachF K ⟨Hf, H, fun a => ∃ i, a ∈ f i⟩ Hf H (vs.map some) args f [] ∧ F args = some (r, args') ∧
  ∀ v fp Hf' H', Reach K ⟨Hf, H, fun a => ∃ i, a ∈ f i⟩ Hf' H' (vs.map some) args' [⟨v, r, fp⟩] → Q v H'
end
end DL

set_option Elab.async false
set_option linter.all false
set_option maxRecDepth 100000
set_option maxHeartbeats 4000000
namespace DL
open PySem L2
variable [TabsC]
theorem held_fps : ∀ {vs : List V} {ss : List Slot} {qs : List Pend}, HeldL vs ss qs → qs.Pairwise (fun p q => ∀ a, a ∈ p.fp → a ∉ q.fp) →
    ∃ fps : List (List Addr), vs.length = fps.length ∧ ss.length = fps.length ∧ (∀ (j : Nat) v s fp, vs[j]? = some v → ss[j]? = some s → fps[j]? = some fp → (⟨v, s, fp⟩ : Pend) ∈ qs) ∧
      (∀ (i j : Nat) fp fq a, fps[i]? = some fp → fps[j]? = some fq → a ∈ fp → a ∈ fq → i = j)
  | _, _, _, .nil, _ => ⟨[], rfl, rfl, by simp, by simp⟩
  | _, _, _, .cons (v := v) (s := s) (fp := fp0) (ps := qs) h, pw => by
    obtain ⟨p1, p2, p3⟩ := List.pairwise_append.mp pw
    obtain ⟨fps, l1, l2, h1, h2⟩ := held_fps h p1
    have inq : ∀ (j : Nat) fp, fps[j]? = some fp → ∃ p ∈ qs, p.fp = fp := fun j fp e => by
      have hj := (List.getElem?_eq_some_iff.mp e).1
      exact ⟨_, h1 j _ _ fp (List.getElem?_eq_getElem (by rw [l1]; exact hj)) (List.getElem?_eq_getElem (by rw [l2]; exact hj)) e, rfl⟩
    refine ⟨fp0 :: fps, by simp [l1], by simp [l2], fun j v' s' fp e1 e2 e3 => ?_, fun i j fp fq a e1 e2 ha hb => ?_⟩
    · cases j with
      | zero => simp at e1 e2 e3; subst e1 e2 e3; simp
      | succ j => exact List.mem_append_left _ (h1 j v' s' fp (by simpa using e1) (by simpa using e2) (by simpa using e3))
    · cases i with
      | zero =>
        cases j with
        | zero => rfl
        | succ j =>
          simp at e1 e2
          subst e1
          obtain ⟨p, hp, rfl⟩ := inq j fq e2
          exact absurd ha (p3 p hp ⟨v, s, fp0⟩ (List.mem_singleton.mpr rfl) a hb)
      | succ i =>
        cases j with
        | zero =>
          simp at e1 e2
          subst e2
          obtain ⟨p, hp, rfl⟩ := inq i fp e1
          exact absurd hb (p3 p hp ⟨v, s, fp0⟩ (List.mem_singleton.mpr rfl) a ha)
        | succ j => rw [h2 i j fp fq a (by simpa using e1) (by simpa using e2) ha hb]
theorem argsS_get {Γ : Env} : ∀ {ss args : List Slot}, argsS Γ ss = some args → args.length = ss.length ∧ ∀ (j : Nat) t, args[j]? = some t → ∃ s, ss[j]? = some s ∧ argS Γ s = some t
  | [], _, h => by cases h; exact ⟨rfl, by simp⟩
  | s :: r, _, h => by
    obtain ⟨t, e1, h⟩ := bindE h
    obtain ⟨q, e2, h⟩ := bindE h
    cases h
    obtain ⟨l, ih⟩ := argsS_get e2
    refine ⟨by simp [l], fun j t' e => ?_⟩
    cases j with
    | zero => simp at e; subst e; exact ⟨s, rfl, e1⟩
    | succ j =>
      obtain ⟨s', h1, h2⟩ := ih j t' (by simpa using e)
      exact ⟨s', by simpa using h1, h2⟩
theorem borIx_mem {i : Nat} : ∀ {ss : List Slot}, i ∈ borIx ss ↔ ∃ j : Nat, ss[j]? = some (.bor i)
  | [] => by simp [borIx]
  | s :: r => by
    have ih := borIx_mem (i := i) (ss := r)
    have step : (∃ j : Nat, (s :: r)[j]? = some (.bor i)) ↔ s = .bor i ∨ ∃ j : Nat, r[j]? = some (.bor i) := by
      constructor
      · rintro ⟨j, h⟩
        cases j with
        | zero => simp at h; exact .inl h
        | succ j => exact .inr ⟨j, by simpa using h⟩
      · rintro (h | ⟨j, h⟩)
        · exact ⟨0, by simp [h]⟩
        · exact ⟨j + 1, by simpa using h⟩
    rw [step]
    cases s with
    | bor k => simp only [borIx, List.mem_cons, ih, Slot.bor.injEq]; rw [eq_comm]
    | _ => simp [borIx, ih]
theorem borIx_inj {i : Nat} : ∀ {ss : List Slot} {j k : Nat}, (borIx ss).Nodup → ss[j]? = some (.bor i) → ss[k]? = some (.bor i) → j = k
  | [], j, k, _, h, _ => by simp at h
  | s :: r, 0, 0, _, _, _ => rfl
  | s :: r, 0, k + 1, n, h, h2 => by
    simp at h h2
    subst h
    exact absurd (borIx_mem.mpr ⟨k, h2⟩) (List.nodup_cons.mp n).1
  | s :: r, j + 1, 0, n, h, h2 => by
    simp at h h2
    subst h2
    exact absurd (borIx_mem.mpr ⟨j, h⟩) (List.nodup_cons.mp n).1
  | s :: r, j + 1, k + 1, n, h, h2 => by
    have n' : (borIx r).Nodup := by
      cases s with
      | bor q => exact (List.nodup_cons.mp n).2
      | _ => exact n
    exact congrArg (· + 1) (borIx_inj (ss := r) (j := j) (k := k) n' (by simpa using h) (by simpa using h2))
theorem backS_len : ∀ {ss as : List Slot} {Γ : Env}, (backS Γ ss as).length = Γ.length
  | [], _, _ => by simp [backS]
  | _ :: _, [], _ => by simp [backS]
  | s :: r, t :: q, Γ => by
    cases s with
    | bor i => rw [backS, backS_len, List.length_set]
    | _ => exact backS_len (ss := r) (as := q) (Γ := Γ)
theorem backS_out {i : Nat} : ∀ {ss as : List Slot} {Γ : Env}, i ∉ borIx ss → (backS Γ ss as)[i]? = Γ[i]?
  | [], _, _, _ => by simp [backS]
  | _ :: _, [], _, _ => by simp [backS]
  | s :: r, t :: q, Γ, h => by
    cases s with
    | bor k =>
      simp only [borIx, List.mem_cons, not_or] at h
      rw [backS, backS_out h.2, List.getElem?_set_ne (Ne.symm h.1)]
    | _ => exact backS_out (ss := r) (as := q) (Γ := Γ) h
theorem backS_in {i j : Nat} {t : Slot} : ∀ {ss as : List Slot} {Γ : Env}, (borIx ss).Nodup → ss[j]? = some (.bor i) → as[j]? = some t → i < Γ.length → (backS Γ ss as)[i]? = some t := by
  induction j with
  | zero =>
    intro ss as Γ n h1 h2 hl
    cases ss with
    | nil => simp at h1
    | cons s r =>
      cases as with
      | nil => simp at h2
      | cons t' q =>
        simp at h1 h2
        subst h1 h2
        have n' : (i :: borIx r).Nodup := n
        rw [backS, backS_out (i := i) (List.nodup_cons.mp n').1, List.getElem?_set_self hl]
  | succ j ih =>
    intro ss as Γ n h1 h2 hl
    cases ss with
    | nil => simp at h1
    | cons s r =>
      cases as with
      | nil => simp at h2
      | cons t' q =>
        simp at h1 h2
        cases s with
        | bor k => rw [backS]; exact ih (List.nodup_cons.mp n).2 h1 h2 (by rw [List.length_set]; exact hl)
        | _ => exact ih (ss := r) (as := q) (Γ := Γ) n h1 h2 hl
section
variable {K : PySem.W.Frag} {B : Base} {Hf H : Hp} {σ : St} {Γ : Env} {ps : List Pend}
theorem call_core {F : FS} {n : Nat} {vs : List V} {ss args args' : List Slot} {r : Slot} {qs : List Pend} {Q : VK} (R : Reach K B Hf H σ Γ (qs ++ ps)) (hd : HeldL vs ss qs) (ea : argsS Γ ss = some args) (nd : (borIx ss).Nodup)
    (eF : F args = some (r, args')) (hkr : keepable r = true) (hl : args'.length = args.length) (hn : vs.length = n)
    (kk : ∀ v fp Hf' H', Reach K B Hf' H' σ (backS Γ ss args') (⟨v, r, fp⟩ :: ps) → Q v H') : spF K n F vs H Q E0 := by
  classical
  obtain ⟨f, R⟩ := R
  obtain ⟨pw1, pw2, pw3⟩ := List.pairwise_append.mp R.pdis
  obtain ⟨fps, l1, l2, hfp, hdis⟩ := held_fps hd pw1
  obtain ⟨la, harg⟩ := argsS_get ea
  -- the argument's footprints
  let fa : Nat → List Addr := fun j => match ss[j]? with
    | some (.bor i) => f i
    | some _ => fps.getD j []
    | none => []
  have fa_bor : ∀ {j i}, ss[j]? = some (.bor i) → fa j = f i := fun {j i} h => by show (match ss[j]? with | some (.bor i) => f i | some _ => fps.getD j [] | none => []) = _; rw [h]
  have fa_oth : ∀ {j s}, ss[j]? = some s → (∀ i, s ≠ .bor i) → fa j = fps.getD j [] := fun {j s} h hne => by
    show (match ss[j]? with | some (.bor i) => f i | some _ => fps.getD j [] | none => []) = _
    rw [h]
    cases s with
    | bor i => exact absurd rfl (hne i)
    | _ => rfl
  have fa_none : ∀ {j}, ss[j]? = none → fa j = [] := fun {j} h => by show (match ss[j]? with | some (.bor i) => f i | some _ => fps.getD j [] | none => []) = _; rw [h]
  have held : ∀ {j s}, ss[j]? = some s → ∃ v fp, vs[j]? = some v ∧ fps[j]? = some fp ∧ fps.getD j [] = fp ∧ (⟨v, s, fp⟩ : Pend) ∈ qs := fun {j s} h => by
    have hj := (List.getElem?_eq_some_iff.mp h).1
    have h1 : vs[j]? = some (vs[j]'(by omega)) := List.getElem?_eq_getElem (by omega)
    have h2 : fps[j]? = some (fps[j]'(by omega)) := List.getElem?_eq_getElem (by omega)
    exact ⟨_, _, h1, h2, by rw [List.getD_eq_getElem?_getD, h2]; rfl, hfp j _ _ _ h1 h h2⟩
  have inP : ∀ {p}, p ∈ qs → p ∈ qs ++ ps := fun h => List.mem_append_left _ h
  -- whose an argument's address is
  have whose : ∀ {j a}, a ∈ fa j → (∃ i, ss[j]? = some (.bor i) ∧ a ∈ f i) ∨ (∃ p ∈ qs, a ∈ p.fp ∧ ∃ fp, fps[j]? = some fp ∧ p.fp = fp) := fun {j a} ha => by
    cases e : ss[j]? with
    | none => rw [fa_none e] at ha; cases ha
    | some s =>
      obtain ⟨v, fp, e1, e2, e3, e4⟩ := held e
      cases s with
      | bor i => rw [fa_bor e] at ha; exact .inl ⟨i, rfl, ha⟩
      | _ => rw [fa_oth e (by intro i z; cases z), e3] at ha; exact .inr ⟨_, e4, ha, fp, e2, rfl⟩
  have vlen : ∀ j, (vs.map some)[j]? = (vs[j]?).map some := fun j => List.getElem?_map
  have RA : ReachF K ⟨Hf, H, fun a => ∃ i, a ∈ fa i⟩ Hf H (vs.map some) args fa [] := by
    refine ⟨by rw [List.length_map, la, l1, l2], R.sub, fun j t e => ?_, fun j e => ?_, fun i j a ha hb => ?_, by simp, by simp, by simp, Evl.Ex.refl _, fun _ _ h _ _ => h, fun _ o h n => ⟨o, h, n⟩, fun _ h => .inl h, fun i a h => .inr ⟨i, h⟩, by simp, R.tab⟩
    · obtain ⟨s, e1, e2⟩ := harg j t e
      obtain ⟨v, fp, q1, q2, q3, q4⟩ := held e1
      have P := R.pend _ (inP q4)
      rw [vlen, q1]
      cases s with
      | no => cases e2
      | d x =>
        cases e2
        rw [fa_oth e1 (by intro i z; cases z), q3]
        exact ⟨P.1, v, rfl, P.2⟩
      | own o =>
        cases e2
        rw [fa_oth e1 (by intro i z; cases z), q3]
        obtain ⟨a, ha, hb⟩ := P
        exact ⟨a, by simp only at ha; rw [ha]; rfl, hb⟩
      | fn a =>
        cases e2
        rw [fa_oth e1 (by intro i z; cases z), q3]
        exact ⟨P.1, by have := P.2; simp only at this; rw [this]; rfl⟩
      | z ds => cases e2
      | bor i =>
        rw [fa_bor e1]
        simp only [argS] at e2
        have hσ : σ[i]? = some (some v) := P.2
        split at e2
        · rename_i o ho
          cases e2
          have q := R.slot i _ ho
          rw [hσ] at q
          exact q
        · rename_i x hx
          cases e2
          have q := R.slot i _ hx
          rw [hσ] at q
          exact q
        · cases e2
    · have : ss[j]? = none := by
        rw [List.getElem?_eq_none_iff] at e ⊢
        rw [← la]; exact e
      exact fa_none this
    · rcases whose ha with ⟨k1, e1, h1⟩ | ⟨p1, hp1, h1, g1, eg1, ep1⟩
      · rcases whose hb with ⟨k2, e2, h2⟩ | ⟨p2, hp2, h2, _⟩
        · have := R.disj k1 k2 a h1 h2
          subst this
          exact borIx_inj nd e1 e2
        · exact absurd h1 (R.psl p2 (inP hp2) a h2 k1)
      · rcases whose hb with ⟨k2, e2, h2⟩ | ⟨p2, hp2, h2, g2, eg2, ep2⟩
        · exact absurd h2 (R.psl p1 (inP hp1) a h1 k2)
        · rw [ep1] at h1
          rw [ep2] at h2
          exact hdis i j g1 g2 a eg1 eg2 h1 h2
  refine ⟨hn, Hf, args, fa, r, args', RA, eF, fun v fp Hf' H' ⟨f', R'⟩ => ?_⟩
  -- back in the caller's frame
  have notO : ∀ {a}, (∀ j, a ∉ fa j) → ¬ ∃ i, a ∈ fa i := fun h ⟨i, hi⟩ => h i hi
  have offS : ∀ {i a}, a ∈ f i → i ∉ borIx ss → ∀ j, a ∉ fa j := fun {i a} ha hi j hj => by
    rcases whose hj with ⟨k1, e1, h1⟩ | ⟨p1, hp1, h1, _⟩
    · exact hi (by rw [R.disj i k1 a ha h1]; exact borIx_mem.mpr ⟨j, e1⟩)
    · exact R.psl p1 (inP hp1) a h1 i ha
  have offP : ∀ {p a}, p ∈ ps → a ∈ p.fp → ∀ j, a ∉ fa j := fun {p a} hp ha j hj => by
    rcases whose hj with ⟨k1, e1, h1⟩ | ⟨p1, hp1, h1, _⟩
    · exact R.psl p (List.mem_append_right _ hp) a ha k1 h1
    · exact pw3 p1 hp1 p hp a h1 ha
  have stayH : ∀ {a}, (∀ j, a ∉ fa j) → H a ≠ none → (∀ u, H a = some u → NT u) → H' a = H a := fun {a} h1 h2 h3 => by
    cases q : H a with
    | none => exact absurd q h2
    | some u => exact R'.keep a u q (notO h1) (h3 u q)
  have stayF : ∀ {a}, (∀ j, a ∉ fa j) → Hf a = none → H a ≠ none → (∀ u, H a = some u → NT u) → (∀ xs, H a ≠ some (.tup xs)) → Hf' a = none := fun {a} h1 h2 h3 h4 h5 => by
    by_cases q : Hf' a = none
    · exact q
    · rcases R'.new a q with z | z | z
      · exact absurd h2 z
      · cases hu : H a with
        | none => exact absurd hu h3
        | some u => exact absurd (h4 u hu) (z u hu)
      · rcases z with z | ⟨xs, z⟩
        · exact absurd z (notO h1)
        · exact absurd ((stayH h1 h3 h4).symm.trans (R'.sub a _ z)) (h5 xs)
  have bo : ∀ {a}, (NB ⟨Hf, H, fun a => ∃ i, a ∈ fa i⟩ a ∨ ∃ i, a ∈ fa i) → NB B a ∨ B.O a := fun {a} h => by
    rcases h with h | ⟨j, h⟩
    · refine .inl fun o h2 h3 => ?_
      obtain ⟨u, h4, h5⟩ := R.dom a o h2 h3
      exact h u h4 h5
    · rcases whose h with ⟨k1, e1, h1⟩ | ⟨p1, hp1, h1, _⟩
      · exact R.own k1 a h1
      · exact R.pown p1 (inP hp1) a h1
  -- what is held by the call's side is new or was an argument's
  have far : ∀ {a}, (NB ⟨Hf, H, fun a => ∃ i, a ∈ fa i⟩ a ∨ ∃ i, a ∈ fa i) → (∀ i, i ∉ borIx ss → a ∉ f i) ∧ ∀ p ∈ ps, a ∉ p.fp := fun {a} h => by
    rcases h with h | ⟨j, h⟩
    · have nn : H a ≠ none → (∀ u, H a = some u → NT u) → False := fun h1 h2 => by
        cases hu : H a with
        | none => exact h1 hu
        | some u => exact h u hu (h2 u hu)
      exact ⟨fun i _ hi => nn (R.off i a hi).2 (R.nt i a hi), fun p hp ha => nn (R.poff (List.mem_append_right _ hp) a ha).2 (R.pnt (List.mem_append_right _ hp) a ha)⟩
    · exact ⟨fun i hi ha => offS ha hi j h, fun p hp ha => offP hp ha j h⟩
  let ix : Nat → Nat := fun i => if h : ∃ j : Nat, ss[j]? = some (.bor i) then Classical.choose h else 0
  have ix_of : ∀ {i}, i ∈ borIx ss → ss[ix i]? = some (.bor i) := fun {i} hi => by
    have h := borIx_mem.mp hi
    show ss[if h : ∃ j : Nat, ss[j]? = some (.bor i) then Classical.choose h else 0]? = _
    rw [dif_pos h]
    exact Classical.choose_spec h
  have blen : ∀ {i}, i ∈ borIx ss → i < Γ.length := fun {i} hi => by
    obtain ⟨v, fp, _, _, _, q4⟩ := held (ix_of hi)
    have hσ : σ[i]? = some (some v) := (R.pend _ (inP q4)).2
    have := (List.getElem?_eq_some_iff.mp hσ).1
    rw [← R.len]; exact this
  have aix : ∀ {i}, i ∈ borIx ss → ∃ t, args'[ix i]? = some t := fun {i} hi => by
    have hj := (List.getElem?_eq_some_iff.mp (ix_of hi)).1
    exact ⟨_, List.getElem?_eq_getElem (by omega)⟩
  let fn : Nat → List Addr := fun i => if i ∈ borIx ss then f' (ix i) else f i
  have fn_in : ∀ {i}, i ∈ borIx ss → fn i = f' (ix i) := fun {i} h => if_pos h
  have fn_out : ∀ {i}, i ∉ borIx ss → fn i = f i := fun {i} h => if_neg h
  have P0 := R'.pend _ List.mem_cons_self
  refine kk v fp Hf' H' ⟨fn, ?_⟩
  refine ⟨by rw [backS_len]; exact R.len, R'.sub, fun i g e => ?_, fun i e => ?_, fun i j a ha hb => ?_, fun p hp => ?_, ?_, fun p hp a ha i hi => ?_, R.ex.trans R'.ex, fun a u h1 h2 h3 => ?_, fun a o h1 h2 => ?_, fun a h => ?_, fun i a ha => ?_, fun p hp a ha => ?_, R'.tab⟩
  · -- slots
    by_cases hi : i ∈ borIx ss
    · obtain ⟨t, ht⟩ := aix hi
      rw [backS_in nd (ix_of hi) ht (blen hi)] at e
      cases e
      rw [fn_in hi]
      obtain ⟨w, fq, q1, _, _, q4⟩ := held (ix_of hi)
      have hσ : σ[i]? = some (some w) := (R.pend _ (inP q4)).2
      have q := R'.slot (ix i) _ ht
      rw [vlen, q1] at q
      rw [hσ]
      exact q
    · rw [backS_out hi] at e
      rw [fn_out hi]
      exact (R.slot i g e).stay (fun b hb => stayH (offS hb hi) (R.off i b hb).2 (R.nt i b hb)) R'.ex fun b hb => stayF (offS hb hi) (R.off i b hb).1 (R.off i b hb).2 (R.nt i b hb) (R.ntup i b hb)
  · have hi : i ∉ borIx ss := fun hi => by
      obtain ⟨t, ht⟩ := aix hi
      rw [backS_in nd (ix_of hi) ht (blen hi)] at e
      cases e
    rw [backS_out hi] at e
    rw [fn_out hi]
    exact R.out i e
  · by_cases hi : i ∈ borIx ss
    · rw [fn_in hi] at ha
      by_cases hj : j ∈ borIx ss
      · rw [fn_in hj] at hb
        have := R'.disj _ _ a ha hb
        have e1 := ix_of hi
        have e2 := ix_of hj
        rw [this, e2] at e1
        cases e1
        rfl
      · rw [fn_out hj] at hb
        exact absurd hb ((far (R'.own _ a ha)).1 j hj)
    · rw [fn_out hi] at ha
      by_cases hj : j ∈ borIx ss
      · rw [fn_in hj] at hb
        exact absurd ha ((far (R'.own _ a hb)).1 i hi)
      · rw [fn_out hj] at hb
        exact R.disj i j a ha hb
  · rcases List.mem_cons.mp hp with rfl | hp
    · -- the result
      cases r with
      | no => exact P0
      | d x => exact P0
      | own o => exact P0
      | fn a => exact P0
      | z ds => exact P0
      | bor i => cases hkr
    · exact (R.pend p (List.mem_append_right _ hp)).stay (fun b hb => stayH (offP hp hb) (R.poff (List.mem_append_right _ hp) b hb).2 (R.pnt (List.mem_append_right _ hp) b hb)) R'.ex fun b hb => stayF (offP hp hb) (R.poff (List.mem_append_right _ hp) b hb).1 (R.poff (List.mem_append_right _ hp) b hb).2 (R.pnt (List.mem_append_right _ hp) b hb) (R.pntup (List.mem_append_right _ hp) b hb)
  · exact List.pairwise_cons.mpr ⟨fun p hp a ha => (far (R'.pown _ List.mem_cons_self a ha)).2 p hp, pw2⟩
  · rcases List.mem_cons.mp hp with rfl | hp
    · by_cases hb : i ∈ borIx ss
      · rw [fn_in hb] at hi
        exact R'.psl _ List.mem_cons_self a ha _ hi
      · rw [fn_out hb] at hi
        exact (far (R'.pown _ List.mem_cons_self a ha)).1 i hb hi
    · by_cases hb : i ∈ borIx ss
      · rw [fn_in hb] at hi
        exact (far (R'.own _ a hi)).2 p hp ha
      · rw [fn_out hb] at hi
        exact R.psl p (List.mem_append_right _ hp) a ha i hi
  · by_cases q : ∃ j, a ∈ fa j
    · rcases bo (.inr q) with z | z
      · exact absurd h3 (z u h1)
      · exact absurd z h2
    · exact R'.keep a u (R.keep a u h1 h2 h3) q h3
  · obtain ⟨u, h3, h4⟩ := R.dom a o h1 h2
    exact R'.dom a u h3 h4
  · rcases R'.new a h with z | z | z
    · exact (R.new a z).imp id fun q => q.imp id fun q => q.imp id fun ⟨xs, h⟩ => ⟨xs, R'.ex a _ h⟩
    · exact .inr ((bo (.inl z)).imp id .inl)
    · rcases z with z | z
      · exact .inr ((bo (.inr z)).imp id .inl)
      · exact .inr (.inr (.inr z))
  · by_cases hb : i ∈ borIx ss
    · rw [fn_in hb] at ha
      exact bo (R'.own _ a ha)
    · rw [fn_out hb] at ha
      exact R.own i a ha
  · rcases List.mem_cons.mp hp with rfl | hp
    · exact bo (R'.pown _ List.mem_cons_self a ha)
    · exact R.pown p (List.mem_append_right _ hp) a ha
end
end DL

set_option Elab.async false
set_option linter.all false
set_option maxRecDepth 100000
set_option maxHeartbeats 4000000
namespace DL
open PySem L2
variable [TabsC]
theorem HeldL.len : ∀ {vs : List V} {ss : List Slot} {qs : List Pend}, HeldL vs ss qs → vs.length = ss.length
  | _, _, _, .nil => rfl
  | _, _, _, .cons h => by simp [h.len]
section
variable {X : Cx} {a : Expr} {es : List Expr} {mr : MA} {pos p : Pos} {k j n : Nat} {x : Str} {f : Addr} {fd : FuncData} {ps : List Str} {F : FS}
theorem call_imp {K : PySem.W.Frag} {σ : St} {H : Hp} {Q : VK} (h : tM K (mCall n F mr) σ H Q) : tCall (spF K n F) [] E0 (tAr K mr) σ H Q := by
  obtain ⟨B, Hf, Γ, ps, r, Γ', R, e, kk⟩ := h
  obtain ⟨⟨ss, Γ1⟩, e1, e⟩ := bindE e
  obtain ⟨args, e2, e⟩ := bindE e
  simp only at e
  split at e
  · rename_i hc
    obtain ⟨⟨r1, args'⟩, e3, e⟩ := bindE e
    simp only at e
    split at e
    · rename_i hk
      cases e
      refine ⟨B, Hf, Γ, ps, ss, Γ1, R, e1, fun vs qs Hf1 H1 hd R1 => ?_⟩
      show spF K n F (vs ++ []) H1 Q E0
      rw [List.append_nil]
      exact call_core R1 hd e2 hc.2 e3 hk.1 hk.2 (hd.len.trans hc.1) kk
    · cases e
  · cases e
theorem d_call (G : FnOk X.prog X.w X.K X.mg X.base CX0 j f fd ps (spF X.K n F)) (c : Cok k X) (hj : j ≤ k) (hm : X.mg x = some (.ref f)) (hk : PySem.W.keepIn X.K (.ref f) = true) (hb : Binds X.K fd ps []) (ha : PA X (a :: es) (tAr X.K mr))
    (hg : Gl X x := by rfl) (hdb : (x == ("__debug__" : Str)) = false := by decide) (he : starEach (a :: es) X.env = (false, eval a X.env) :: starEach es X.env := by rfl) (hpl : (backTo pos (starEach es X.env)).any (·.1) = false := by rfl) :
    PE X (.Call (.Name x p) (a :: es) [] pos) (tM X.K (mCall n F mr)) :=
  PE.imp (pe_call G (c.room.mono hj) hg hm hk hb .nil pass0 ha hdb he hpl) fun _ _ _ => call_imp
theorem d_call0 (G : FnOk X.prog X.w X.K X.mg X.base CX0 j f fd [] (spF X.K 0 F)) (c : Cok k X) (hj : j ≤ k) (hm : X.mg x = some (.ref f)) (hk : PySem.W.keepIn X.K (.ref f) = true) (hb : Binds X.K fd [] [])
    (hg : Gl X x := by rfl) (hdb : (x == ("__debug__" : Str)) = false := by decide) : PE X (.Call (.Name x p) [] [] pos) (tM X.K (mCall 0 F mA0)) :=
  PE.imp (pe_call0 G (c.room.mono hj) hg hm hk hb .nil pass0 hdb) fun σ H Q h => by
    have h := call_imp h
    obtain ⟨B, Hf, Γ, ps, r, Γ', R, e, kk⟩ := h
    cases e
    exact kk [] [] Hf H .nil R
end

/-! ### a def's body -/
def pickF (W : List Nat) : Nat → List Slot → Env → List Slot
  | _, [], _ => []
  | i, a :: r, Γ => (if i ∈ W then a else Γ.getD i .no) :: pickF W (i + 1) r Γ
def noOwn : Slot → Bool
  | .own _ => false
  | _ => true
def okAsg (W : List Nat) : Nat → List Slot → Bool
  | _, [] => true
  | i, a :: r => (!decide (i ∈ W) || noOwn a) && okAsg W (i + 1) r
def runF (n N : Nat) (W : List Nat) (m : MS) : FS := fun args => if args.length = n ∧ okAsg W 0 args = true then (m (args ++ List.replicate (N - n) .no)).bind fun p => match p.1 with
    | .ret r => if keepable r = true then some (r, pickF W 0 args p.2) else none
    | .nx => some (.d .none, pickF W 0 args p.2)
    | _ => none
  else none
theorem pickF_len {W : List Nat} {Γ : Env} : ∀ {args : List Slot} {i : Nat}, (pickF W i args Γ).length = args.length
  | [], _ => rfl
  | a :: r, i => by rw [pickF, List.length_cons, List.length_cons, pickF_len]
theorem pickF_get {W : List Nat} {Γ : Env} : ∀ {args : List Slot} {i j : Nat}, (pickF W i args Γ)[j]? = (args[j]?).map fun a => if i + j ∈ W then a else Γ.getD (i + j) .no
  | [], _, _ => by simp [pickF]
  | a :: r, i, 0 => by simp [pickF]
  | a :: r, i, j + 1 => by
    have e : i + (j + 1) = i + 1 + j := by omega
    rw [pickF, List.getElem?_cons_succ, List.getElem?_cons_succ, pickF_get, e]
theorem okAsg_get {W : List Nat} : ∀ {args : List Slot} {i j : Nat} {a : Slot}, okAsg W i args = true → args[j]? = some a → i + j ∈ W → noOwn a = true
  | [], _, _, _, _, h, _ => by simp at h
  | b :: r, i, 0, a, h, e, hw => by
    simp at e
    subst e
    rw [okAsg, Bool.and_eq_true] at h
    simp only [Nat.add_zero] at hw
    simpa [hw] using h.1
  | b :: r, i, j + 1, a, h, e, hw => by
    rw [okAsg, Bool.and_eq_true] at h
    exact okAsg_get (i := i + 1) (j := j) h.2 (by simpa using e) (by have e : i + 1 + j = i + (j + 1) := by omega
                                                                     rw [e]; exact hw)
section
variable {P : Program} {w : World} {K : PySem.W.Frag} {mg : Str → Option Value} {base : Heap}
theorem start_eq {N : List Str} {vs : List V} : start N vs = vs.map some ++ List.replicate (N.length - vs.length) none := rfl
theorem run_of {n N : Nat} {Ns : List Str} {W : List Nat} {m : MS} {vs : List V} {H : Hp} {Q : VK} {E : XK} (hN : Ns.length = N) (hle : n ≤ N) (h : spF K n (runF n N W m) vs H Q E) :
    tS K W m { nx := fun _ H' => Q .non H', rt := Q } (start Ns vs) H := by
  obtain ⟨hn, Hf, args, f, r, args', RA, eF, kk⟩ := h
  simp only [runF] at eF
  split at eF
  · rename_i hc
    obtain ⟨ha, hok⟩ := hc
    obtain ⟨⟨fl, Γ'⟩, e1, eF⟩ := bindE eF
    rw [start_eq, hN, hn]
    -- the frame at the start
    have getS : ∀ i, (vs.map some ++ List.replicate (N - n) none : St)[i]? = if i < n then (vs.map some)[i]? else if i < N then some none else none := fun i => by
      by_cases h1 : i < n
      · rw [if_pos h1, List.getElem?_append_left (by rw [List.length_map, hn]; exact h1)]
      · rw [if_neg h1, List.getElem?_append_right (by rw [List.length_map, hn]; omega), List.getElem?_replicate, List.length_map, hn]
        by_cases h2 : i < N
        · rw [if_pos h2, if_pos (by omega)]
        · rw [if_neg h2, if_neg (by omega)]
    have getG : ∀ i, (args ++ List.replicate (N - n) Slot.no)[i]? = if i < n then args[i]? else if i < N then some .no else none := fun i => by
      by_cases h1 : i < n
      · rw [if_pos h1, List.getElem?_append_left (by omega)]
      · rw [if_neg h1, List.getElem?_append_right (by omega), List.getElem?_replicate, ha]
        by_cases h2 : i < N
        · rw [if_pos h2, if_pos (by omega)]
        · rw [if_neg h2, if_neg (by omega)]
    have fout : ∀ i, n ≤ i → f i = [] := fun i hi => RA.out i (List.getElem?_eq_none (by omega))
    have R0 : ReachF K ⟨Hf, H, fun a => ∃ i, a ∈ f i⟩ Hf H (vs.map some ++ List.replicate (N - n) none) (args ++ List.replicate (N - n) .no) f [] := by
      refine ⟨by simp [ha, hn], RA.sub, fun i g e => ?_, fun i e => ?_, RA.disj, by simp, RA.pdis, RA.psl, RA.ex, RA.keep, RA.dom, RA.new, RA.own, RA.pown, RA.tab⟩
      · rw [getG] at e
        rw [getS]
        split at e
        · rename_i h1
          rw [if_pos h1]
          exact RA.slot i g e
        · rename_i h1
          split at e
          · cases e
            exact fout i (by omega)
          · cases e
      · rw [getG] at e
        split at e
        · exact RA.out i e
        · exact fout i (by omega)
    have back : ∀ {σ' v fp Hf' H' r'}, keepable r' = true → Stay W (vs.map some ++ List.replicate (N - n) none) σ' → Reach K ⟨Hf, H, fun a => ∃ i, a ∈ f i⟩ Hf' H' σ' Γ' [⟨v, r', fp⟩] →
        Reach K ⟨Hf, H, fun a => ∃ i, a ∈ f i⟩ Hf' H' (vs.map some) (pickF W 0 args Γ') [⟨v, r', fp⟩] := fun {σ' v fp Hf' H' r'} hk hs ⟨f', R'⟩ => by
      have sub : ∀ i a, a ∈ (if i < n ∧ i ∉ W ∧ i < Γ'.length then f' i else []) → a ∈ f' i := fun i a h => by
        split at h
        · exact h
        · cases h
      refine ⟨fun i => if i < n ∧ i ∉ W ∧ i < Γ'.length then f' i else [], by rw [List.length_map, pickF_len, ha, hn], R'.sub, fun i g e => ?_, fun i e => ?_, fun i j a h1 h2 => R'.disj i j a (sub i a h1) (sub j a h2), fun p hp => ?_, R'.pdis, fun p hp a h1 i h2 => R'.psl p hp a h1 i (sub i a h2), R'.ex, R'.keep, R'.dom, R'.new, fun i a h => R'.own i a (sub i a h), R'.pown, R'.tab⟩
      · rw [pickF_get, Nat.zero_add] at e
        cases ea : args[i]? with
        | none => rw [ea] at e; cases e
        | some t =>
          rw [ea] at e
          simp only [Option.map_some, Option.some.injEq] at e
          have hin : i < n := by have := (List.getElem?_eq_some_iff.mp ea).1; omega
          by_cases hw : i ∈ W
          · rw [if_pos hw] at e
            subst e
            rw [if_neg (fun z => z.2.1 hw)]
            have no := okAsg_get hok ea (by rw [Nat.zero_add]; exact hw)
            have q := RA.slot i _ ea
            cases t with
            | no => rfl
            | d x => obtain ⟨_, u, q1, q2⟩ := q; exact ⟨rfl, u, q1, q2.mono R'.ex⟩
            | fn a => exact ⟨rfl, q.2⟩
            | z ds => obtain ⟨_, u, q1, q2⟩ := q; exact ⟨rfl, u, q1, q2.mono R'.ex⟩
            | own o => cases no
            | bor j => exact q.elim
          · rw [if_neg hw] at e
            subst e
            have es : σ'[i]? = (vs.map some)[i]? := by rw [hs i hw, getS, if_pos hin]
            by_cases hl : i < Γ'.length
            · rw [if_pos ⟨hin, hw, hl⟩]
              have hg : Γ'[i]? = some (Γ'.getD i .no) := by rw [List.getD_eq_getElem?_getD, List.getElem?_eq_getElem hl]; rfl
              have q := R'.slot i _ hg
              rw [es] at q
              exact q
            · rw [if_neg (fun z => hl z.2.2)]
              have hg : Γ'.getD i .no = .no := by rw [List.getD_eq_getElem?_getD, List.getElem?_eq_none (by omega)]; rfl
              rw [hg]
              rfl
      · rw [pickF_get, Option.map_eq_none_iff, List.getElem?_eq_none_iff] at e
        rw [if_neg (fun z => by omega)]
      · simp only [List.mem_singleton] at hp
        subst hp
        have q := R'.pend _ (List.mem_singleton.mpr rfl)
        cases r' with
        | bor j => cases hk
        | no => exact q
        | d x => exact q
        | own o => exact q
        | fn a => exact q
        | z ds => exact q
    refine ⟨_, Hf, _, fl, Γ', ⟨f, R0⟩, e1, ?_⟩
    cases fl with
    | nx =>
      simp only [Option.some.injEq, Prod.mk.injEq] at eF
      obtain ⟨rfl, rfl⟩ := eF
      intro σ' Hf' H' hs R'
      obtain ⟨f', R'⟩ := R'
      exact kk .non [] Hf' H' (back rfl hs ⟨f', R'.pushD .non⟩)
    | ret r' =>
      simp only at eF
      split at eF
      · rename_i hk
        cases eF
        exact fun σ' v fp Hf' H' hs R' => kk v fp Hf' H' (back hk hs R')
      · cases eF
    | bk => cases eF
    | ct => cases eF
  · cases eF
/-- a def keeps the promise of what its body does -/
theorem okM {x qual : Str} {st : Stmt} {f : Addr} {fd : FuncData} {N ps : List Str} {k : Nat} {W : List Nat} {m : MS} (F : Fun K x qual st f fd) (S : FnScope N ps (defScope st))
    (hb : ∀ (cdv : Value) (A : Around) (outer : List PySem.Env) (s : Shared) (H : Hp) (E : XK), Cok k (cxOf CX0 P w K mg base N qual (defScope st) f cdv A outer s H E).nox →
      PSs (cxOf CX0 P w K mg base N qual (defScope st) f cdv A outer s H E).nox (defBody st) (tS K W m)) : FnOk P w K mg base CX0 (k + 1) f fd ps (spF K ps.length (runF ps.length N.length W m)) := by
  refine F.ok S (fun vs H Q E h => h.1) fun cdv A outer s H vs Q E hr h => ⟨tS K W m, hb cdv A outer s H E ⟨rfl, hr, S.nd⟩, run_of rfl ?_ h⟩
  have := congrArg List.length S.pre
  rw [List.length_take] at this
  omega
/-- a promise for less -/
theorem FnOk.le {f : Addr} {fd : FuncData} {ps : List Str} {j n : Nat} {F G : FS} (h : FnOk P w K mg base CX0 j f fd ps (spF K n F)) (le : ∀ args r, G args = some r → F args = some r) : FnOk P w K mg base CX0 j f fd ps (spF K n G) :=
  h.imp fun vs H Q E ⟨hn, Hf, args, f, r, args', RA, eG, kk⟩ => ⟨hn, Hf, args, f, r, args', RA, le _ _ eG, kk⟩
/-- nothing promised -/
theorem FnOk.bot {f : Addr} {fd : FuncData} {ps : List Str} {j : Nat} : FnOk P w K mg base CX0 j f fd ps (spF K ps.length fun _ => none) :=
  ⟨fun vs H Q E h => h.1, fun A outer s H args us vs Q E _ _ _ _ h => by obtain ⟨_, Hf, args, f, r, args', RA, eG, kk⟩ := h; cases eG⟩
end
end DL

set_option Elab.async false
set_option linter.all false
set_option maxRecDepth 100000
set_option maxHeartbeats 4000000
namespace DL
open PySem L2
variable [TabsC]
/-! ### isinstance -/
inductive Ty where
  | int | bool | str | tup | lst | dct
def Ty.nm : Ty → String
  | .int => "int" | .bool => "bool" | .str => "str" | .tup => "tuple" | .lst => "list" | .dct => "dict"
def tyName : Dat → String
  | .none => "NoneType" | .bool _ => "bool" | .int _ => "int" | .str _ => "str" | .list _ => "list" | .tuple _ => "tuple" | .dict _ => "dict"
def isTy : Ty → Dat → Bool
  | .int, .int _ => true
  | .int, .bool _ => true
  | .bool, .bool _ => true
  | .str, .str _ => true
  | .tup, .tuple _ => true
  | .lst, .list _ => true
  | .dct, .dict _ => true
  | _, _ => false
inductive DT where
  | non | bool | int | str | lst | tup | dct
def DT.nm : DT → String
  | .non => "NoneType" | .bool => "bool" | .int => "int" | .str => "str" | .lst => "list" | .tup => "tuple" | .dct => "dict"
def dtOf : Dat → DT
  | .none => .non | .bool _ => .bool | .int _ => .int | .str _ => .str | .list _ => .lst | .tuple _ => .tup | .dict _ => .dct
def isT2 : Ty → DT → Bool
  | .int, .int => true
  | .int, .bool => true
  | .bool, .bool => true
  | .str, .str => true
  | .tup, .tup => true
  | .lst, .lst => true
  | .dct, .dct => true
  | _, _ => false
theorem kitT2 (t : Ty) (d : DT) : kitB d.nm t.nm = some (isT2 t d) := by
  cases t <;> cases d <;> decide +kernel
theorem kitTy (t : Ty) (d : Dat) : kitB (tyName d) t.nm = some (isTy t d) := by
  have h1 : tyName d = (dtOf d).nm := by cases d <;> rfl
  have h2 : isTy t d = isT2 t (dtOf d) := by cases t <;> cases d <;> rfl
  rw [h1, h2]
  exact kitT2 t _
theorem bootTy : ∀ t : Ty, bootBuiltins (Str.ofString t.nm) = some (.type t.nm) := by
  intro t
  cases t <;> decide +kernel
section
variable {X : Cx} {K : PySem.W.Frag} {a b c e : Expr} {ma mb mc me : M} {pos p : Pos} {k : Nat}
theorem tyX {H : Hp} {v : V} {d : Dat} (h : Den K H v d) : TyX K H v (.type (tyName d)) := by
  cases h with
  | non => exact .base .non
  | bl b => exact .base (.bl b)
  | int i => exact .base (.int i)
  | str x => exact .base (.str x)
  | lst s r =>
    rcases s with s | ⟨o, s⟩
    · exact .base (.lst s)
    · exact .base (.frz s)
  | tup s r => exact .base (.tup s)
  | dct s r =>
    rcases s with s | ⟨o, s⟩
    · exact .base (.dK s)
    · exact .fDict s
  | dctT s r => exact .base (.dT s)
def mIsi (t : Ty) (m : M) : M := fun Γ => (m Γ).bind fun p => (viewD p.2 p.1).bind fun d => some (.d (.bool (isTy t d)), p.2)
def mIsi2 (t u : Ty) (m : M) : M := fun Γ => (m Γ).bind fun p => (viewD p.2 p.1).bind fun d => some (.d (.bool (isTy t d || isTy u d)), p.2)
theorem d_isi (t : Ty) {nm : Str} {q : Pos} (ha : PE X a (tM X.K ma)) (hm : X.mg "isinstance" = none) (hmt : X.mg nm = none) (hn : nm = Str.ofString t.nm := by rfl) (hg : Gl X "isinstance" := by rfl) (hgt : Gl X nm := by rfl)
    (hs : starEach [a, .Name nm q] X.env = (false, eval a X.env) :: starEach [.Name nm q] X.env := by rfl) (hs2 : starEach [.Name nm q] X.env = (false, eval (.Name nm q) X.env) :: starEach [] X.env := by rfl)
    (hn1 : nm ≠ "__name__" := by decide) (hd1 : (nm == ("__debug__" : Str)) = false := by decide) (hpl : (backTo pos (starEach [.Name nm q] X.env)).any (·.1) = false := by rfl) :
    PE X (.Call (.Name "isinstance" p) [a, .Name nm q] [] pos) (tM X.K (mIsi t ma)) :=
  PE.imp (pe_callB call_isi hg hm (by decide +kernel) (pa_cons ha (pa_cons (pe_bltn (v := .ty t.nm) hgt hmt (by rw [hn]; exact bootTy t) rfl hn1 hd1) pa_nil hs2) hs) (he := hs) (hpl := hpl)) fun σ H Q h => by
    obtain ⟨B, Hf, Γ, ps, r, Γ', R, e, kk⟩ := h
    obtain ⟨⟨s1, Γ1⟩, e1, e⟩ := bindE e
    obtain ⟨d, e2, e⟩ := bindE e
    cases e
    refine ⟨B, Hf, Γ, ps, s1, Γ1, R, e1, fun x fp Hf1 H1 ⟨f, R1⟩ => ?_⟩
    have v1 := R1.viewP (p := ⟨x, s1, fp⟩) (by simp) e2
    exact ⟨x, .ty t.nm, _, _, _, rfl, .ty _, tyX v1, kit_ty (kitTy t d), kk _ [] Hf1 H1 ⟨f, R1.pop.pushD (.bl _)⟩⟩
theorem d_isi2 (t u : Ty) {n1 n2 : Str} {q q2 tq : Pos} {x1 : Nat} (ha : PE X a (tM X.K ma)) (hm : X.mg "isinstance" = none) (hm1 : X.mg n1 = none) (hm2 : X.mg n2 = none) (hn1 : n1 = Str.ofString t.nm := by rfl) (hn2 : n2 = Str.ofString u.nm := by rfl)
    (hg : Gl X "isinstance" := by rfl) (hg1 : Gl X n1 := by rfl) (hg2 : Gl X n2 := by rfl)
    (hs : starEach [a, .Tuple [.Name n1 q, .Name n2 q2] x1 tq] X.env = (false, eval a X.env) :: starEach [.Tuple [.Name n1 q, .Name n2 q2] x1 tq] X.env := by rfl)
    (hs2 : starEach [.Tuple [.Name n1 q, .Name n2 q2] x1 tq] X.env = (false, eval (.Tuple [.Name n1 q, .Name n2 q2] x1 tq) X.env) :: starEach [] X.env := by rfl)
    (hs3 : starEach [.Name n1 q, .Name n2 q2] X.env = (false, eval (.Name n1 q) X.env) :: starEach [.Name n2 q2] X.env := by rfl) (hs4 : starEach [.Name n2 q2] X.env = (false, eval (.Name n2 q2) X.env) :: starEach [] X.env := by rfl)
    (ha1 : n1 ≠ "__name__" := by decide) (hd1 : (n1 == ("__debug__" : Str)) = false := by decide) (ha2 : n2 ≠ "__name__" := by decide) (hd2 : (n2 == ("__debug__" : Str)) = false := by decide)
    (hpl : (backTo pos (starEach [.Tuple [.Name n1 q, .Name n2 q2] x1 tq] X.env)).any (·.1) = false := by rfl) :
    PE X (.Call (.Name "isinstance" p) [a, .Tuple [.Name n1 q, .Name n2 q2] x1 tq] [] pos) (tM X.K (mIsi2 t u ma)) :=
  PE.imp (pe_callB call_isiT hg hm (by decide +kernel) (pa_cons ha (pa_cons (pe_tup (pa_cons (pe_bltn (v := .ty t.nm) hg1 hm1 (by rw [hn1]; exact bootTy t) rfl ha1 hd1) (pa_cons (pe_bltn (v := .ty u.nm) hg2 hm2 (by rw [hn2]; exact bootTy u) rfl ha2 hd2) pa_nil hs4) hs3)) pa_nil hs2) hs) (he := hs) (hpl := hpl)) fun σ H Q h => by
    obtain ⟨B, Hf, Γ, ps, r, Γ', R, e, kk⟩ := h
    obtain ⟨⟨s1, Γ1⟩, e1, e⟩ := bindE e
    obtain ⟨d, e2, e⟩ := bindE e
    cases e
    refine ⟨B, Hf, Γ, ps, s1, Γ1, R, e1, fun x fp Hf1 H1 ⟨f, R1⟩ => ?_⟩
    refine ⟨by show 2 ≤ sizeLine; decide, fun tp htp => ?_⟩
    have v1 := (R1.viewP (p := ⟨x, s1, fp⟩) (by simp) e2).mono (ex_upd (o := .tup [.ty t.nm, .ty u.nm]) htp)
    refine ⟨x, tp, [.ty t.nm, .ty u.nm], _, _, _, rfl, upd_same, .cons (.ty _) (.cons (.ty _) .nil), tyX v1, kitAny_cons (kit_ty (kitTy t d)) (r := isTy t d || isTy u d) (fun hb => kitAny_cons (kit_ty (kitTy u d)) (fun hc => ?_) (fun hc => ?_)) (fun hb => ?_), kk _ [] Hf1 _ ⟨f, (R1.pop.alloc htp).pushD (.bl _)⟩⟩
    · rw [hb, hc]; exact kitAny_nil
    · rw [hb, hc]; rfl
    · rw [hb]; rfl

/-! ### a < b < c -/
def mChain (g g2 : Slot → Slot → MT) (ma mb mc : M) : MT := fun Γ => (ma Γ).bind fun p => (mb p.2).bind fun q => (g p.1 q.1 q.2).bind fun t => if t.1 then (mc t.2).bind fun u => g2 q.1 u.1 u.2 else some (false, t.2)
def cmpI (f : Int → Int → Bool) : Slot → Slot → MT := fun s1 s2 Γ => match s1, s2 with
  | .d (.int i), .d (.int j) => some (f i j, Γ)
  | _, _ => none
theorem cmpI_some {f : Int → Int → Bool} {s1 s2 : Slot} {Γ Γ' : Env} {b : Bool} (h : cmpI f s1 s2 Γ = some (b, Γ')) : ∃ i j, s1 = .d (.int i) ∧ s2 = .d (.int j) ∧ b = f i j ∧ Γ' = Γ := by
  cases s1 with
  | d x =>
    cases x <;> cases s2 <;> simp only [cmpI, reduceCtorEq] at h
    rename_i y
    cases y <;> simp only [reduceCtorEq, Option.some.injEq, Prod.mk.injEq] at h
    exact ⟨_, _, rfl, rfl, h.1.symm, h.2.symm⟩
  | _ => cases h
theorem chain_imp {g g2 : Int → Int → Bool} {σ : St} {H : Hp} {Q : Bool → Hp → Prop} (h : tT K (mChain (cmpI g) (cmpI g2) ma mb mc) σ H Q) :
    tChain (rI0 fun i j => .bl (g i j)) (rI0 fun i j => .bl (g2 i j)) (tM K ma) (tM K mb) (tM K mc) σ H fun x H' => ∃ k, x = .bl k ∧ Q k H' := by
  obtain ⟨B, Hf, Γ, ps, r, Γ', R, e, kk⟩ := h
  obtain ⟨⟨s1, Γ1⟩, e1, e⟩ := bindE e
  obtain ⟨⟨s2, Γ2⟩, e2, e⟩ := bindE e
  obtain ⟨⟨b3, Γ3⟩, e3, e⟩ := bindE e
  obtain ⟨i, j, rfl, rfl, rfl, rfl⟩ := cmpI_some e3
  refine ⟨B, Hf, Γ, ps, _, Γ1, R, e1, fun x fp1 Hf1 H1 R1 => ⟨B, Hf1, Γ1, _, _, Γ3, R1, e2, fun y fp2 Hf2 H2 ⟨f2, R2⟩ => ?_⟩⟩
  have q2 := (R2.pend _ List.mem_cons_self).2
  have q1 := (R2.pop.pend _ List.mem_cons_self).2
  cases q1
  cases q2
  refine ⟨i, j, rfl, rfl, g i j, rfl, ?_⟩
  by_cases hg : g i j = true
  · rw [if_pos hg]
    simp only [hg, if_true] at e
    obtain ⟨⟨s4, Γ4⟩, e4, e⟩ := bindE e
    obtain ⟨j', l, hj, rfl, rfl, rfl⟩ := cmpI_some e
    cases hj
    refine ⟨B, Hf2, Γ3, _, _, _, ⟨f2, R2⟩, e4, fun z fp3 Hf3 H3 ⟨f3, R3⟩ => ?_⟩
    have q3 := (R3.pend _ List.mem_cons_self).2
    cases q3
    exact ⟨j, l, rfl, rfl, _, rfl, kk Hf3 H3 ⟨f3, R3.pop.pop.pop⟩⟩
  · rw [if_neg hg]
    simp only [hg, Bool.false_eq_true, if_false] at e
    cases e
    exact ⟨_, rfl, kk Hf2 H2 ⟨f2, R2.pop.pop⟩⟩
def iLt (i j : Int) : Bool := decide (i < j)
def iLe (i j : Int) : Bool := decide (i ≤ j)
theorem dt_lele (ha : PE X a (tM X.K ma)) (hb : PE X b (tM X.K mb)) (hc : PE X c (tM X.K mc)) (hm : lastMarks [.LtE, .LtE] [b, c] = false := by with_unfolding_all rfl) : PT X (.Compare a [.LtE, .LtE] [b, c] pos) (tT X.K (mChain (cmpI iLe) (cmpI iLe) ma mb mc)) :=
  PT.imp (pt_chain op_le op_le ha hb hc hm) fun _ _ _ h => chain_imp h
theorem dt_lelt (ha : PE X a (tM X.K ma)) (hb : PE X b (tM X.K mb)) (hc : PE X c (tM X.K mc)) (hm : lastMarks [.LtE, .Lt] [b, c] = false := by with_unfolding_all rfl) : PT X (.Compare a [.LtE, .Lt] [b, c] pos) (tT X.K (mChain (cmpI iLe) (cmpI iLt) ma mb mc)) :=
  PT.imp (pt_chain op_le op_lt ha hb hc hm) fun _ _ _ h => chain_imp h
def mVal (mt : MT) : M := fun Γ => (mt Γ).bind fun p => some (.d (.bool p.1), p.2)
theorem chain_val {g g2 : Int → Int → Bool} {σ : St} {H : Hp} {Q : VK} (h : tM K (mVal (mChain (cmpI g) (cmpI g2) ma mb mc)) σ H Q) :
    tChain (rI0 fun i j => .bl (g i j)) (rI0 fun i j => .bl (g2 i j)) (tM K ma) (tM K mb) (tM K mc) σ H Q := by
  obtain ⟨B, Hf, Γ, ps, r, Γ', R, e, kk⟩ := h
  obtain ⟨⟨bb, Γ1⟩, e1, e⟩ := bindE e
  cases e
  have := chain_imp (Q := fun k H' => Q (.bl k) H') ⟨B, Hf, Γ, ps, bb, _, R, e1, fun Hf' H' ⟨f, R'⟩ => kk (.bl bb) [] Hf' H' ⟨f, R'.pushD (.bl _)⟩⟩
  -- the wish on truths
  have mono : ∀ {Q1 Q2 : VK}, (∀ v H, Q1 v H → Q2 v H) → tChain (rI0 fun i j => .bl (g i j)) (rI0 fun i j => .bl (g2 i j)) (tM K ma) (tM K mb) (tM K mc) σ H Q1 → tChain (rI0 fun i j => .bl (g i j)) (rI0 fun i j => .bl (g2 i j)) (tM K ma) (tM K mb) (tM K mc) σ H Q2 := by
    intro Q1 Q2 hq ⟨B, Hf, Γ, ps, r, Γ', R, e, kk⟩
    refine ⟨B, Hf, Γ, ps, r, Γ', R, e, fun v fp Hf' H' R' => ?_⟩
    obtain ⟨B, Hf, Γ, ps, r, Γ', R, e, kk⟩ := kk v fp Hf' H' R'
    refine ⟨B, Hf, Γ, ps, r, Γ', R, e, fun v fp Hf' H' R' => ?_⟩
    obtain ⟨i, j, e1, e2, k, e3, q⟩ := kk v fp Hf' H' R'
    refine ⟨i, j, e1, e2, k, e3, ?_⟩
    split at q
    · rename_i hk
      rw [if_pos hk]
      obtain ⟨B, Hf, Γ, ps, r, Γ', R, e, kk⟩ := q
      refine ⟨B, Hf, Γ, ps, r, Γ', R, e, fun v fp Hf' H' R' => ?_⟩
      obtain ⟨i, j, e1, e2, q⟩ := kk v fp Hf' H' R'
      exact ⟨i, j, e1, e2, hq _ _ q⟩
    · rename_i hk
      rw [if_neg hk]
      exact hq _ _ q
  exact mono (fun v H ⟨k, e, q⟩ => by rw [e]; exact q) this
theorem d_lele (ha : PE X a (tM X.K ma)) (hb : PE X b (tM X.K mb)) (hc : PE X c (tM X.K mc)) (hm : lastMarks [.LtE, .LtE] [b, c] = false := by with_unfolding_all rfl) : PE X (.Compare a [.LtE, .LtE] [b, c] pos) (tM X.K (mVal (mChain (cmpI iLe) (cmpI iLe) ma mb mc))) :=
  PE.imp (pe_chain op_le op_le ha hb hc hm) fun _ _ _ h => chain_val h

/-! ### lists of the frame, written -/
variable {W : List Nat}
theorem own_lst {B : Base} {Hf H : Hp} {σ : St} {Γ : Env} {f : Nat → List Addr} {ps : List Pend} {i : Nat} {l : List Dat} {v : V} (R : ReachF K B Hf H σ Γ f ps) (hi : Γ[i]? = some (.own (.lst l))) (hv : σ[i]? = some (some v)) :
    ∃ p xs, v = .ref p ∧ f i = [p] ∧ Hf p = none ∧ H p = some (.lst xs) ∧ Dens K Hf xs l := by
  obtain ⟨a, e1, e2, e3, xs, e4, e5⟩ := R.slot i _ hi
  rw [hv] at e1
  cases e1
  exact ⟨a, xs, rfl, e2, e3, e4, e5⟩
theorem writeL {B : Base} {Hf H : Hp} {σ : St} {Γ : Env} {f : Nat → List Addr} {ps : List Pend} {i : Nat} {l l' : List Dat} {p : Addr} {ys : List V} (R : ReachF K B Hf H σ Γ f ps) (hi : Γ[i]? = some (.own (.lst l))) (hv : σ[i]? = some (some (.ref p)))
    (d : Dens K Hf ys l') : ReachF K B Hf (upd H p (.lst ys)) σ (Γ.set i (.own (.lst l'))) f ps := by
  obtain ⟨q, xs, e1, e2, e3, e4, e5⟩ := own_lst R hi hv
  cases e1
  exact R.writeS hi hv ⟨rfl, e3, ys, upd_same, d⟩ e2
/-- x[i] = e -/
def mSetIx (i : Nat) (mi mv : M) : MS := fun Γ => (mv Γ).bind fun p => (settle p.2 p.1).bind fun q => match q.2[i]? with
  | some (.own _) => (mi q.2).bind fun t => match t.1, t.2[i]? with
    | .d (.int n), some (.own (.lst l)) => (ixN l.length n).bind fun j => some (.nx, t.2.set i (.own (.lst (l.set j q.1))))
    | _, _ => none
  | _ => none
theorem ds_setIx (i : Nat) {x : Str} {np sp : Pos} (hv : PE X e (tM X.K me)) (ho : PE X (.Name x np) (tM X.K (mVar i))) (hi : PE X a (tM X.K ma))
    (ha : ∀ v, assign (.Subscript (.Name x np) a sp) X.env v = (do
      let ov ← holding [v] (eval (.Name x np) X.env)
      let iv ← holding [v, ov] (eval a X.env)
      standAt sp
      holding [v, ov, iv] (setItem ov iv v)
      release [v, ov, iv] []) := by intro _; rfl) (hs : swapsWithSole [.Subscript (.Name x np) a sp] e pos.line X.env = pure false := by rfl) (hw : swappedStores [.Subscript (.Name x np) a sp] e X.env = pure none := by rfl)
    (h1 : (assignEach [.Subscript (.Name x np) a sp] X.env).map (·.2) = [assign (.Subscript (.Name x np) a sp) X.env] := by rfl) :
    PS X (.Assign [.Subscript (.Name x np) a sp] e pos) (tS X.K [] (mSetIx i ma me)) := PS.imp (ps_asg hv (pg_sub ho hi set_list ha) hs hw h1) fun D σ H h => by
  obtain ⟨B, Hf, Γ, fl, Γ', R, ee, kk⟩ := h
  obtain ⟨⟨s1, Γ1⟩, e1, ee⟩ := bindE ee
  obtain ⟨⟨d, Γ2⟩, e2, ee⟩ := bindE ee
  simp only at ee
  split at ee
  · rename_i o ho'
    obtain ⟨⟨s3, Γ3⟩, e3, ee⟩ := bindE ee
    simp only at ee
    split at ee
    · rename_i n l hl
      obtain ⟨j, e4, ee⟩ := bindE ee
      cases ee
      refine ⟨B, Hf, Γ, [], s1, Γ1, R, e1, fun v fp Hf1 H1 R1 => ?_⟩
      obtain ⟨Hf2, _, R2⟩ := R1.settle e2
      refine ⟨B, Hf2, Γ2, _, .bor i, Γ2, R2, by simp only [mVar, ho'], fun w fp2 Hf3 H3 R3 => ⟨B, Hf3, Γ2, _, _, Γ3, R3, e3, fun u fp3 Hf4 H4 ⟨f4, R4⟩ => ?_⟩⟩
      have q3 := (R4.pend _ List.mem_cons_self).2
      have q2 := (R4.pop.pend _ List.mem_cons_self).2
      have q1 := (R4.pop.pop.pend _ List.mem_cons_self).2
      simp only at q2 q1
      cases q3
      obtain ⟨p, xs, rfl, h2, h3, h4, h5⟩ := own_lst R4 hl q2
      refine ⟨p, xs, _, j, rfl, rfl, h4, by rw [h5.length]; exact e4, ?_⟩
      exact kk σ Hf4 _ (Stay.refl _ _) ⟨f4, (writeL R4 hl q2 (h5.set q1 j)).pop.pop.pop⟩
    · cases ee
  · cases ee
/-- x[i] op= e of ints -/
def mAugIx (i : Nat) (g : Int → Int → Int) (mi me : M) : MS := fun Γ => match Γ[i]? with
  | some (.own _) => (mi Γ).bind fun t => match t.1, t.2[i]? with
    | .d (.int n), some (.own (.lst l)) => (atI l n).bind fun z => (me t.2).bind fun u => match z, u.1, u.2[i]? with
      | .int z, .d (.int y), some (.own (.lst l2)) => (ixN l2.length n).bind fun j => some (.nx, u.2.set i (.own (.lst (l2.set j (.int (g z y))))))
      | _, _, _ => none
    | _, _ => none
  | _ => none
theorem get_list {X : Cx} : PGet X (rIxL X.K) := fun pins s σ H o i ov iv Q I ro ri h => by
  obtain ⟨p, xs, i, z, rfl, rfl, hq, he, q⟩ := h
  cases ro
  obtain ⟨t, rfl⟩ := ri
  obtain ⟨its, r, pl, hz⟩ := I.list hq
  obtain ⟨j, h1, h2, h3, h4, h5⟩ := atI_get he
  obtain ⟨w, ew, rw'⟩ := r.get h2
  have hl := r.length
  have hn := line63
  have fin : EP X pins σ Q w s := ⟨z, H, I, rw', q⟩
  by_cases h0 : 0 ≤ i
  · have hj : i.toNat = j := by
      rw [seqIndex_of h0 h5] at h1
      exact Option.some.inj h1
    exact wpAny_getItem_list pl.isList h0 (by omega) (by rw [hj]; simpa using ew) fin
  · have hj : (i + (its.toArray.size : Int)).toNat = j := by
      rw [seqIndex_neg (by omega) h4] at h1
      rw [List.size_toArray, ← hl]
      exact Option.some.inj h1
    exact wpAny_getItem_list_neg pl.isList (by omega) (by rw [List.size_toArray] <;> omega) (by omega) (by rw [hj]; simpa using ew) fin
theorem ds_augIx (i : Nat) {x : Str} {np sp : Pos} {op : Operator} {gf : Int → Int → Int} (hp : PIp X op (ipI gf)) (ho : PE X (.Name x np) (tM X.K (mVar i))) (hi : PE X a (tM X.K ma)) (hv : PE X e (tM X.K me))
    (ha : ∀ ov iv new, augStore a ov iv new = (do holding [new, ov, iv] (setItem ov iv new); release [new, ov, iv] []; pure .next) := by intros; rfl) :
    PS X (.AugAssign (.Subscript (.Name x np) a sp) op e pos) (tS X.K [] (mAugIx i gf ma me)) := PS.imp (ps_augS ho hi get_list hv hp set_list ha) fun D σ H h => by
  obtain ⟨B, Hf, Γ, fl, Γ', R, ee, kk⟩ := h
  unfold mAugIx at ee
  split at ee
  · rename_i o ho'
    obtain ⟨⟨s3, Γ3⟩, e3, ee⟩ := bindE ee
    simp only at ee
    split at ee
    · rename_i n l hl
      obtain ⟨z, e4, ee⟩ := bindE ee
      obtain ⟨⟨s5, Γ5⟩, e5, ee⟩ := bindE ee
      simp only at ee
      split at ee
      · rename_i z y l2 hl2 _
        obtain ⟨j, e6, ee⟩ := bindE ee
        cases ee
        refine ⟨B, Hf, Γ, [], .bor i, Γ, R, by simp only [mVar, ho'], fun w fp2 Hf3 H3 R3 => ⟨B, Hf3, Γ, _, _, Γ3, R3, e3, fun u fp3 Hf4 H4 ⟨f4, R4⟩ => ?_⟩⟩
        have q3 := (R4.pend _ List.mem_cons_self).2
        have q2 := (R4.pop.pend _ List.mem_cons_self).2
        simp only at q2
        cases q3
        obtain ⟨p, xs, rfl, h2, h3, h4, h5⟩ := own_lst R4 hl q2
        obtain ⟨zv, ez, dz⟩ := h5.at e4
        cases dz
        refine ⟨p, xs, _, _, rfl, rfl, .inl (.inl h4), ez, B, Hf4, Γ3, _, _, Γ5, ⟨f4, R4⟩, e5, fun t fp5 Hf5 H5 ⟨f5, R5⟩ => ?_⟩
        have q5 := (R5.pend _ List.mem_cons_self).2
        cases q5
        refine ⟨_, _, rfl, rfl, ?_⟩
        obtain ⟨p', xs', e7, h2', h3', h4', h5'⟩ := own_lst R5 hl2 q2
        cases e7
        refine ⟨p, xs', _, j, rfl, rfl, h4', by rw [h5'.length]; exact e6, ?_⟩
        exact kk σ Hf5 _ (Stay.refl _ _) ⟨f5, (writeL R5 hl2 q2 (h5'.set (.int _) j)).pop.pop.pop⟩
      · cases ee
    · cases ee
  · cases ee
/-! methods of the frame's lists -/
def mApp (i : Nat) (me : M) : M := fun Γ => match Γ[i]? with
  | some (.own (.lst _)) => (me Γ).bind fun p => (settle p.2 p.1).bind fun q => match q.2[i]? with
    | some (.own (.lst l)) => if l.length < lim then some (.d .none, q.2.set i (.own (.lst (l ++ [q.1])))) else none
    | _ => none
  | _ => none
theorem d_app (i : Nat) {x : Str} {np ap : Pos} (ho : PE X (.Name x np) (tM X.K (mVar i))) (hv : PE X e (tM X.K me)) (hs : starEach [e] X.env = (false, eval e X.env) :: starEach [] X.env := by rfl) (hbase : attributeBase (.Name x np) "append" X.env (eval (.Name x np) X.env) = eval (.Name x np) X.env := by rfl)
    (hfew : ((backTo pos (starEach [e] X.env)).all (fun x => !x.1) && (backToKw pos (keywordEach [] X.env)).all (fun x => x.1.isSome) && decide (([e] : List Expr).length + ([] : List Keyword).length + (if ([] : List Keyword).isEmpty then 0 else 1) < 30)) = true := by rfl)
    (hline : (ap.endLine == pos.line) = true := by rfl) :
    PE X (.Call (.Attribute (.Name x np) "append" ap) [e] [] pos) (tM X.K (mApp i me)) :=
  PE.imp (pe_bm PySem.F.plainAttrs_list PySem.F.slot_list_append PySem.F.type_list_append mt_append ho (pa_cons hv pa_nil hs) hbase hfew hline hs) fun σ H Q h => by
  obtain ⟨B, Hf, Γ, ps, r, Γ', ⟨f, R⟩, ee, kk⟩ := h
  unfold mApp at ee
  split at ee
  · rename_i l0 hl0
    obtain ⟨⟨s1, Γ1⟩, e1, ee⟩ := bindE ee
    obtain ⟨⟨d, Γ2⟩, e2, ee⟩ := bindE ee
    simp only at ee
    split at ee
    · rename_i l hl
      split at ee
      · rename_i hsz
        cases ee
        refine ⟨B, Hf, Γ, ps, .bor i, Γ, ⟨f, R⟩, by simp only [mVar, hl0], fun w fp2 Hf3 H3 ⟨f3, R3⟩ => ?_⟩
        have q2 := (R3.pend _ List.mem_cons_self).2
        simp only at q2
        obtain ⟨p, xs, rfl, h2, h3, h4, h5⟩ := own_lst R3 hl0 q2
        refine ⟨.inl ⟨rfl, xs, .inl (.inl h4)⟩, B, Hf3, Γ, _, s1, Γ1, ⟨f3, R3⟩, e1, fun y fp Hf4 H4 R4 => ?_⟩
        obtain ⟨Hf5, _, f5, R5⟩ := R4.settle e2
        have dy := (R5.pend _ List.mem_cons_self).2
        obtain ⟨p', xs', e7, h2', h3', h4', h5'⟩ := own_lst R5 hl q2
        cases e7
        refine ⟨p, xs', y, rfl, rfl, h4', by rw [h5'.length]; exact Nat.lt_of_lt_of_le hsz lim_le, ?_⟩
        exact kk .non [] Hf5 _ ⟨f5, ((writeL R5 hl q2 (h5'.append (.cons dy .nil))).pop.pop).pushD .non⟩
      · cases ee
    · cases ee
  · cases ee
def mExt (i : Nat) (me : M) : M := fun Γ => match Γ[i]? with
  | some (.own (.lst _)) => (me Γ).bind fun p => match p.1, p.2[i]? with
    | .own (.lst l2), some (.own (.lst l)) => if l.length + l2.length ≤ lim then some (.d .none, p.2.set i (.own (.lst (l ++ l2)))) else none
    | _, _ => none
  | _ => none
theorem d_ext (i : Nat) {x : Str} {np ap : Pos} (ho : PE X (.Name x np) (tM X.K (mVar i))) (hv : PE X e (tM X.K me)) (hs : starEach [e] X.env = (false, eval e X.env) :: starEach [] X.env := by rfl) (hbase : attributeBase (.Name x np) "extend" X.env (eval (.Name x np) X.env) = eval (.Name x np) X.env := by rfl)
    (hfew : ((backTo pos (starEach [e] X.env)).all (fun x => !x.1) && (backToKw pos (keywordEach [] X.env)).all (fun x => x.1.isSome) && decide (([e] : List Expr).length + ([] : List Keyword).length + (if ([] : List Keyword).isEmpty then 0 else 1) < 30)) = true := by rfl)
    (hline : (ap.endLine == pos.line) = true := by rfl) :
    PE X (.Call (.Attribute (.Name x np) "extend" ap) [e] [] pos) (tM X.K (mExt i me)) :=
  PE.imp (pe_bm PySem.F.plainAttrs_list PySem.F.slot_list_extend PySem.F.type_list_extend mt_extend ho (pa_cons hv pa_nil hs) hbase hfew hline hs) fun σ H Q h => by
  obtain ⟨B, Hf, Γ, ps, r, Γ', ⟨f, R⟩, ee, kk⟩ := h
  unfold mExt at ee
  split at ee
  · rename_i l0 hl0
    obtain ⟨⟨s1, Γ1⟩, e1, ee⟩ := bindE ee
    simp only at ee
    split at ee
    · rename_i l2 l hl
      split at ee
      · rename_i hsz
        cases ee
        refine ⟨B, Hf, Γ, ps, .bor i, Γ, ⟨f, R⟩, by simp only [mVar, hl0], fun w fp2 Hf3 H3 ⟨f3, R3⟩ => ?_⟩
        have q2 := (R3.pend _ List.mem_cons_self).2
        simp only at q2
        obtain ⟨p, xs, rfl, h2, h3, h4, h5⟩ := own_lst R3 hl0 q2
        refine ⟨.inl ⟨rfl, xs, .inl (.inl h4)⟩, B, Hf3, Γ, _, _, Γ1, ⟨f3, R3⟩, e1, fun y fp Hf4 H4 ⟨f4, R4⟩ => ?_⟩
        obtain ⟨q, rfl, efp, hq1, zs, hq2, dz⟩ : ∃ a, y = .ref a ∧ fp = [a] ∧ Hf4 a = none ∧ ∃ xs, H4 a = some (.lst xs) ∧ Dens X.K Hf4 xs l2 := R4.pend _ List.mem_cons_self
        obtain ⟨p', xs', e7, h2', h3', h4', h5'⟩ := own_lst R4 hl q2
        cases e7
        refine ⟨p, q, xs', zs, rfl, rfl, h4', hq2, by rw [h5'.length, dz.length]; exact Nat.le_trans hsz lim_le, ?_⟩
        exact kk .non [] Hf4 _ ⟨f4, ((writeL R4 hl q2 (h5'.append dz)).pop.pop).pushD .non⟩
      · cases ee
    · cases ee
  · cases ee
def mPop (i : Nat) : M := fun Γ => match Γ[i]? with
  | some (.own (.lst l)) => (l[l.length - 1]?).bind fun d => some (.d d, Γ.set i (.own (.lst l.dropLast)))
  | _ => none
theorem d_pop (i : Nat) {x : Str} {np ap : Pos} (ho : PE X (.Name x np) (tM X.K (mVar i))) (hbase : attributeBase (.Name x np) "pop" X.env (eval (.Name x np) X.env) = eval (.Name x np) X.env := by rfl) (hline : (ap.endLine == pos.line) = true := by rfl) : PE X (.Call (.Attribute (.Name x np) "pop" ap) [] [] pos) (tM X.K (mPop i)) :=
  PE.imp (pe_bm0 PySem.F.plainAttrs_list PySem.F.slot_list_pop PySem.F.type_list_pop mt_pop ho hbase hline) fun σ H Q h => by
  obtain ⟨B, Hf, Γ, ps, r, Γ', ⟨f, R⟩, ee, kk⟩ := h
  unfold mPop at ee
  split at ee
  · rename_i l hl
    obtain ⟨d, e1, ee⟩ := bindE ee
    cases ee
    refine ⟨B, Hf, Γ, ps, .bor i, Γ, ⟨f, R⟩, by simp only [mVar, hl], fun w fp2 Hf3 H3 ⟨f3, R3⟩ => ?_⟩
    have q2 := (R3.pend _ List.mem_cons_self).2
    simp only at q2
    obtain ⟨p, xs, rfl, h2, h3, h4, h5⟩ := own_lst R3 hl q2
    rw [← h5.length] at e1
    obtain ⟨v, ev, dv⟩ := h5.getD e1
    refine ⟨.inl ⟨rfl, xs, .inl (.inl h4)⟩, p, xs, v, rfl, rfl, h4, ev, ?_⟩
    exact kk v [] Hf3 _ ⟨f3, ((writeL R3 hl q2 h5.dropLast).pop).pushD dv⟩
  · cases ee
end
end DL

set_option Elab.async false
set_option linter.all false
set_option maxRecDepth 100000
set_option maxHeartbeats 4000000
namespace DL
open PySem L2
variable [TabsC]
def fuel : Nat := 100000000
/-! ### defs of a text -/
section
variable (P : Program) (w : World) (K : PySem.W.Frag) (mg : Str → Option Value) (base : Heap)
/-- the def named x does what F says, within k levels -/
def DefOk (k : Nat) (x : Str) (n : Nat) (F : FS) : Prop :=
  ∃ (f : Addr) (fd : FuncData) (ps : List Str), ps.length = n ∧ FnOk P w K mg base CX0 k f fd ps (spF K n F) ∧ mg x = some (.ref f) ∧ PySem.W.keepIn K (.ref f) = true ∧ Binds K fd ps []
end
section
variable {P : Program} {w : World} {K : PySem.W.Frag} {mg : Str → Option Value} {base : Heap}
theorem okMD {x qual : Str} {params : Arguments} {body : List Stmt} {scope : Scope} {f : Addr} {fd : FuncData} {N ps : List Str} {k : Nat} {W : List Nat} {m : MS} (F : L2.FunD K x qual params body scope [] [] f fd) (S : FnScope N ps scope) (hm : mg x = some (.ref f))
    (hba : ∀ (kV doc pm : Value) (an : Option Addr) (cdv ct : Value) (us : List Value), us.length = ps.length → bindArgs (PySem.W.fnOf x qual params body scope .none kV doc pm an cdv ct) ⟨us, []⟩ = pure (ps.zip us))
    (hb : ∀ (cdv : Value) (A : Around) (outer : List PySem.Env) (s : Shared) (H : Hp) (E : XK), Cok k (cxOf CX0 P w K mg base N qual scope f cdv A outer s H E).nox →
      PSs (cxOf CX0 P w K mg base N qual scope f cdv A outer s H E).nox body (tS K W m)) : DefOk P w K mg base (k + 1) x ps.length (runF ps.length N.length W m) := by
  refine ⟨f, fd, ps, rfl, ?_, hm, F.kp, F.bindsN hba⟩
  refine F.ok S (fun vs H Q E h => h.1) fun cdv A outer s H vs Q E hr h => ⟨tS K W m, (hb cdv A outer s H E ⟨rfl, hr, S.nd⟩).nox, run_of rfl ?_ h⟩
  have := congrArg List.length S.pre
  rw [List.length_take] at this
  omega
theorem DefOk.le {x : Str} {k n : Nat} {F G : FS} (h : DefOk P w K mg base k x n F) (le : ∀ args r, G args = some r → F args = some r) : DefOk P w K mg base k x n G := by
  obtain ⟨f, fd, ps, h1, h2, h3⟩ := h
  exact ⟨f, fd, ps, h1, DL.FnOk.le h2 le, h3⟩
theorem DefOk.bot {x qual : Str} {params : Arguments} {body : List Stmt} {scope : Scope} {f : Addr} {fd : FuncData} {ps : List Str} {j : Nat} (F : L2.FunD K x qual params body scope [] [] f fd) (hm : mg x = some (.ref f))
    (hba : ∀ (kV doc pm : Value) (an : Option Addr) (cdv ct : Value) (us : List Value), us.length = ps.length → bindArgs (PySem.W.fnOf x qual params body scope .none kV doc pm an cdv ct) ⟨us, []⟩ = pure (ps.zip us)) :
    DefOk P w K mg base j x ps.length fun _ => none := ⟨f, fd, ps, rfl, DL.FnOk.bot, hm, F.kp, F.bindsN hba⟩
end
section
variable {X : Cx} {K : PySem.W.Frag} {a b c e tg : Expr} {ma mb mc : M} {mt mu : MT} {md : MD} {pos p : Pos} {j k n : Nat} {es : List Expr} {W W2 : List Nat} {g : MG} {gs : MGs} {x : Str} {F : FS} {mr : MA}
theorem d_callD (G : DefOk X.prog X.w X.K X.mg X.base j x n F) (c : Cok k X) (hj : j ≤ k) (ha : PA X (a :: es) (tAr X.K mr))
    (hg : Gl X x := by rfl) (hdb : (x == ("__debug__" : Str)) = false := by decide) (he : starEach (a :: es) X.env = (false, eval a X.env) :: starEach es X.env := by rfl) (hpl : (backTo pos (starEach es X.env)).any (·.1) = false := by rfl) :
    PE X (.Call (.Name x p) (a :: es) [] pos) (tM X.K (mCall n F mr)) := by
  obtain ⟨f, fd, ps, h1, h2, h3, h4, h5⟩ := G
  exact d_call h2 c hj h3 h4 h5 ha hg hdb he hpl
theorem d_callD0 (G : DefOk X.prog X.w X.K X.mg X.base j x 0 F) (c : Cok k X) (hj : j ≤ k)
    (hg : Gl X x := by rfl) (hdb : (x == ("__debug__" : Str)) = false := by decide) : PE X (.Call (.Name x p) [] [] pos) (tM X.K (mCall 0 F mA0)) := by
  obtain ⟨f, fd, ps, h1, h2, h3, h4, h5⟩ := G
  cases List.length_eq_zero_iff.mp h1
  exact d_call0 h2 c hj h3 h4 h5 hg hdb
theorem dg_w (h : PG X tg (tG X.K W g)) (hw : (W.all fun i => decide (i ∈ W2)) = true) : PG X tg (tG X.K W2 g) := PG.imp h fun v σ H Q h => by
  obtain ⟨B, Hf, Γ, ps, s, fp, Γ', R, nb, e, k⟩ := h
  exact ⟨B, Hf, Γ, ps, s, fp, Γ', R, nb, e, fun σ' Hf' l st ex R' => k σ' Hf' l (st.mono fun i hi => of_decide_eq_true (List.all_eq_true.mp hw i hi)) ex R'⟩
theorem dss_w {body : List Stmt} {m : MS} (h : PSs X body (tS X.K W m)) (hw : (W.all fun i => decide (i ∈ W2)) = true) : PSs X body (tS X.K W2 m) := PSs.imp h fun D σ H h => by
  obtain ⟨B, Hf, Γ, fl, Γ', R, e, k⟩ := h
  have up : ∀ {σ σ' : St}, Stay W σ σ' → Stay W2 σ σ' := fun h => h.mono fun i hi => of_decide_eq_true (List.all_eq_true.mp hw i hi)
  refine ⟨B, Hf, Γ, fl, Γ', R, e, ?_⟩
  cases fl with
  | nx => exact fun σ' Hf' H' s R => k σ' Hf' H' (up s) R
  | ret r => exact fun σ' v fp Hf' H' s R => k σ' v fp Hf' H' (up s) R
  | bk => exact fun σ' Hf' H' s R => k σ' Hf' H' (up s) R
  | ct => exact fun σ' Hf' H' s R => k σ' Hf' H' (up s) R
theorem base2 {B : Base} {Hf H : Hp} {σ : St} {Γ : Env} {f : Nat → List Addr} {ps : List Pend} (R : ReachF K B Hf H σ Γ f ps) : ReachF K ⟨Hf, H, fun a => (∃ i, a ∈ f i) ∨ ∃ p ∈ ps, a ∈ p.fp⟩ Hf H σ Γ f ps :=
  ⟨R.len, R.sub, R.slot, R.out, R.disj, R.pend, R.pdis, R.psl, Evl.Ex.refl _, fun _ _ h _ _ => h, fun _ o h n => ⟨o, h, n⟩, fun _ h => .inl h, fun i a h => .inr (.inl ⟨i, h⟩), fun p hp a h => .inr (.inr ⟨p, hp, h⟩), R.tab⟩
theorem trans2 {B : Base} {Hf H Hf' H' : Hp} {σ σ' : St} {Γ Γ' : Env} {f f' : Nat → List Addr} {ps ps' : List Pend} (R : ReachF K B Hf H σ Γ f ps) (R2 : ReachF K ⟨Hf, H, fun a => (∃ i, a ∈ f i) ∨ ∃ p ∈ ps, a ∈ p.fp⟩ Hf' H' σ' Γ' f' ps') : ReachF K B Hf' H' σ' Γ' f' ps' := by
  have bo : ∀ {a}, (NB ⟨Hf, H, fun a => (∃ i, a ∈ f i) ∨ ∃ p ∈ ps, a ∈ p.fp⟩ a ∨ (∃ i, a ∈ f i) ∨ ∃ p ∈ ps, a ∈ p.fp) → NB B a ∨ B.O a := fun {a} h => by
    rcases h with h | ⟨i, h⟩ | ⟨p, hp, h⟩
    · refine .inl fun o h2 h3 => ?_
      obtain ⟨u, h4, h5⟩ := R.dom a o h2 h3
      exact h u h4 h5
    · exact R.own i a h
    · exact R.pown p hp a h
  refine ⟨R2.len, R2.sub, R2.slot, R2.out, R2.disj, R2.pend, R2.pdis, R2.psl, R.ex.trans R2.ex, fun a u h1 h2 h3 => ?_, fun a o h1 h2 => by obtain ⟨u, h3, h4⟩ := R.dom a o h1 h2; exact R2.dom a u h3 h4, fun a h1 => ?_, fun i a ha => bo (R2.own i a ha), fun p hp a ha => bo (R2.pown p hp a ha), R2.tab⟩
  · refine R2.keep a u (R.keep a u h1 h2 h3) (fun z => ?_) h3
    rcases bo (.inr z) with z | z
    · exact absurd h3 (z u h1)
    · exact h2 z
  · rcases R2.new a h1 with z | z | z
    · exact (R.new a z).imp id fun q => q.imp id fun q => q.imp id fun ⟨xs, h⟩ => ⟨xs, R2.ex a _ h⟩
    · exact .inr ((bo (.inl z)).imp id .inl)
    · rcases z with z | z
      · exact .inr ((bo (.inr z)).imp id .inl)
      · exact .inr (.inr (.inr z))
/-! ### a, b = x, y -/
def parS : List Nat → List Slot → Env → Option Env
  | [], [], Γ => some Γ
  | i :: is, s :: ss, Γ => (parS is ss Γ).bind fun Γ1 => if i < Γ1.length then some (Γ1.set i s) else none
  | _, _, _ => none
def parV : List Nat → List V → St → St
  | i :: is, v :: vs, σ => (parV is vs σ).set i (some v)
  | _, _, σ => σ
theorem par_all {B : Base} {Hf H : Hp} {σ : St} : ∀ {vs : List V} {ss : List Slot} {qs : List Pend} {is : List Nat} {Γ Γ' : Env} {ps : List Pend}, HeldL vs ss qs → Reach K B Hf H σ Γ (qs ++ ps) → NoBor ps → ss.all keepable = true → parS is ss Γ = some Γ' →
    Reach K B Hf H (parV is vs σ) Γ' ps ∧ (∀ i, i ∉ is → (parV is vs σ)[i]? = σ[i]?) ∧ is.length = vs.length
  | _, _, _, [], _, _, _, .nil, R, _, _, e => by cases e; exact ⟨R, fun _ _ => rfl, rfl⟩
  | _, _, _, _ :: _, _, _, _, .nil, _, _, _, e => by cases e
  | _, _, _, [], _, _, _, .cons h, _, _, _, e => by cases e
  | _, _, _, i :: is, Γ, Γ', ps, .cons (v := v) (s := s) (fp := fp) h, R, nb, ha, e => by
    rw [List.all_cons, Bool.and_eq_true] at ha
    obtain ⟨Γ1, e1, e2⟩ := bindE e
    split at e2
    · rename_i hl
      cases e2
      rw [List.append_assoc] at R
      have nb1 : NoBor (⟨v, s, fp⟩ :: ps) := fun p hp j => by
        rcases List.mem_cons.mp hp with rfl | hp
        · intro z
          simp only at z
          rw [z] at ha
          cases ha.1
        · exact nb p hp j
      obtain ⟨⟨f, R1⟩, st, ln⟩ := par_all h R nb1 ha.2 e1
      refine ⟨⟨_, R1.store hl ha.1 fun p hp j h => absurd h (nb p hp j)⟩, fun j hj => ?_, by simp [ln]⟩
      rw [parV, List.getElem?_set_ne (fun z => hj (by simp [z])), st j (fun z => hj (List.mem_cons_of_mem _ z))]
    · cases e2
def mPar (is : List Nat) (ma : MA) : MS := fun Γ => (ma Γ).bind fun p => if p.1.all keepable then (parS is p.1 p.2).bind fun Γ' => some (.nx, Γ') else none
theorem par_imp {is : List Nat} {D : Ends} {σ : St} {H : Hp} (h : tS K is (mPar is mr) D σ H) : tAr K mr σ H fun vs H' => vs.length = is.length ∧ D.nx (parV is vs σ) H' := by
  obtain ⟨B, Hf, Γ, fl, Γ', R, e, k⟩ := h
  obtain ⟨⟨ss, Γ1⟩, e1, e⟩ := bindE e
  simp only at e
  split at e
  · rename_i ha
    obtain ⟨Γ2, e2, e⟩ := bindE e
    cases e
    refine ⟨B, Hf, Γ, [], ss, Γ1, R, e1, fun vs qs Hf1 H1 hd R1 => ?_⟩
    obtain ⟨R2, st, ln⟩ := par_all hd R1 NoBor.nil ha e2
    exact ⟨ln.symm, k _ Hf1 H1 (fun i hi => st i hi) R2⟩
  · cases e
theorem ds_par (i j : Nat) {x y : Str} {px py pt : Pos} {kt k2 pt2} (hc : Cok k X) (ha : PA X [a, b] (tAr X.K mr)) (hi : X.N[i]? = some x := by rfl) (hj : X.N[j]? = some y := by rfl) (hij : i ≠ j := by decide)
    (hx : X.env.scope.names.lookup x = some .local := by rfl) (hy : X.env.scope.names.lookup y = some .local := by rfl)
    (hw : swappedStores [.Tuple [.Name x px, .Name y py] kt pt] (.Tuple [a, b] k2 pt2) X.env = pure (some [x, y]) := by rfl)
    (hs : swapsWithSole [.Tuple [.Name x px, .Name y py] kt pt] (.Tuple [a, b] k2 pt2) pos.line X.env = pure false := by rfl) :
    PS X (.Assign [.Tuple [.Name x px, .Name y py] kt pt] (.Tuple [a, b] k2 pt2) pos) (tS X.K [i, j] (mPar [i, j] mr)) :=
  PS.imp (ps_par hc.calm hc.nd hi hj hij hx hy ha hw hs) fun D σ H h => by
    obtain ⟨B, Hf, Γ, ps, r, Γ', R, e, kk⟩ := par_imp h
    refine ⟨B, Hf, Γ, ps, r, Γ', R, e, fun vs qs Hf' H' hd R' => ?_⟩
    obtain ⟨hl, q⟩ := kk vs qs Hf' H' hd R'
    match vs, hl with
    | [v, w], _ => exact ⟨v, w, rfl, by rw [List.set_comm _ _ hij]; exact q⟩
theorem ds_par3 (i j l : Nat) {x y z : Str} {px py pz pt : Pos} {kt k2 pt2} (hc : Cok k X) (ha : PA X [a, b, c] (tAr X.K mr)) (hi : X.N[i]? = some x := by rfl) (hj : X.N[j]? = some y := by rfl) (hl : X.N[l]? = some z := by rfl) (hij : i ≠ j := by decide) (hil : i ≠ l := by decide) (hjl : j ≠ l := by decide)
    (hx : X.env.scope.names.lookup x = some .local := by rfl) (hy : X.env.scope.names.lookup y = some .local := by rfl) (hz : X.env.scope.names.lookup z = some .local := by rfl)
    (hw : swappedStores [.Tuple [.Name x px, .Name y py, .Name z pz] kt pt] (.Tuple [a, b, c] k2 pt2) X.env = pure (some [x, y, z]) := by rfl)
    (hs : swapsWithSole [.Tuple [.Name x px, .Name y py, .Name z pz] kt pt] (.Tuple [a, b, c] k2 pt2) pos.line X.env = pure false := by rfl) :
    PS X (.Assign [.Tuple [.Name x px, .Name y py, .Name z pz] kt pt] (.Tuple [a, b, c] k2 pt2) pos) (tS X.K [i, j, l] (mPar [i, j, l] mr)) :=
  PS.imp (ps_par3 hc.calm hc.nd hi hj hl hij hil hjl hx hy hz ha hw hs) fun D σ H h => by
    obtain ⟨B, Hf, Γ, ps, r, Γ', R, e, kk⟩ := par_imp h
    refine ⟨B, Hf, Γ, ps, r, Γ', R, e, fun vs qs Hf' H' hd R' => ?_⟩
    obtain ⟨hn, q⟩ := kk vs qs Hf' H' hd R'
    match vs, hn with
    | [u, v, w], _ =>
      refine ⟨u, v, w, rfl, ?_⟩
      have e : ((σ.set i (some u)).set j (some v)).set l (some w) = parV [i, j, l] [u, v, w] σ := by
        show _ = ((σ.set l (some w)).set j (some v)).set i (some u)
        rw [List.set_comm _ _ hij, List.set_comm _ _ hil, List.set_comm _ _ hjl]
      rw [e]
      exact q
/-! ### [.. for .. in .. for .. in ..] -/
variable {iter iter1 elt tg1 : Expr} {mi mi1 : MI} {g1 : MG} {me : M}
def lcL2 (g : MG) (mi1 : MI) (g1 : MG) (me : M) (vs vs1 : List Nat) : List Dat → List Dat → Env → Option (List Dat × Env)
  | [], acc, Γ => some (acc, Γ)
  | x :: xs, acc, Γ => (g (.d x) Γ).bind fun Γ1 => (mi1 Γ1).bind fun p => (lcL g1 mYes me vs1 p.1 acc (wipeE p.2 vs1)).bind fun q => lcL2 g mi1 g1 me vs vs1 xs q.1 (wipeE q.2 vs)
def mLc2 (mi : MI) (g : MG) (mi1 : MI) (g1 : MG) (me : M) (vs vs1 : List Nat) : M := fun Γ => (mi Γ).bind fun p => if plainAt p.2 vs then
    (lcL2 g mi1 g1 me vs vs1 p.1 [] (wipeE p.2 vs)).bind fun q => some (.own (.lst q.1), putE q.2 p.2 vs) else none
theorem lc2_imp {vs vs1 : List Nat} {σ : St} {H : Hp} {Q : VK} (hv : ∀ i ∈ vs1, i ∈ vs) (h : tM K (mLc2 mi g mi1 g1 me vs vs1) σ H Q) : tLc2 (tI K mi) (tG K vs g) (tT K mYes) (tI K mi1) (tG K vs1 g1) (tT K mYes) (tM K me) vs vs1 σ H Q := by
  obtain ⟨B, Hf, Γ, ps, r, Γ', R, e, kk⟩ := h
  obtain ⟨⟨items, Γ1⟩, e1, e⟩ := bindE e
  simp only at e
  split at e
  · rename_i hpl
    obtain ⟨⟨res, Γ2⟩, e2, e⟩ := bindE e
    cases e
    refine ⟨B, Hf, Γ, ps, items, Γ1, R, e1, fun J Hf1 H1 ⟨f1, R1⟩ hJ => ?_⟩
    intro D hD
    have RB := R1.base
    obtain ⟨fw, RW⟩ := (RB.newL (ds := []) (xs := []) hD .nil).wiped (by intro p hp j z; simp only [List.mem_singleton] at hp; subst hp; cases z) vs
    refine ⟨fun i j H' => j = items.length - i ∧ i ≤ items.length ∧ ∃ Hf' Γi acc, Reach K ⟨Hf1, H1, fun a => ∃ i, a ∈ f1 i⟩ Hf' H' (wipe σ vs) Γi [⟨.ref D, .own (.lst acc), [D]⟩] ∧ lcL2 g mi1 g1 me vs vs1 (items.drop i) acc Γi = some (res, Γ2),
      ⟨_, rfl, Nat.zero_le _, Hf1, _, [], ⟨fw, RW⟩, e2⟩, ?_⟩
    rintro i j H2 ⟨rfl, hil, Hf2, Γi, acc, ⟨f2, R2⟩, e3⟩
    have nbD : ∀ acc', NoBor [⟨.ref D, .own (.lst acc'), [D]⟩] := fun acc' p hp j z => by simp only [List.mem_singleton] at hp; subst hp; cases z
    by_cases hlt : i < items.length
    · have hx : items[i]? = some items[i] := by simp [hlt]
      obtain ⟨go, yl⟩ := (hJ Hf2 H2 R2.ex R2.sub i).1 _ hx
      rw [List.drop_eq_getElem_cons hlt] at e3
      obtain ⟨Γ3, e4, e3⟩ := bindE e3
      obtain ⟨⟨items1, Γ5⟩, e5, e3⟩ := bindE e3
      obtain ⟨⟨acc6, Γ6⟩, e6, e3⟩ := bindE e3
      refine .inr ⟨go, fun H' => ∃ Hf' Γi acc, Reach K ⟨Hf1, H1, fun a => ∃ i, a ∈ f1 i⟩ Hf' H' (wipe σ vs) Γi [⟨.ref D, .own (.lst acc), [D]⟩] ∧ lcL2 g mi1 g1 me vs vs1 (items.drop (i + 1)) acc Γi = some (res, Γ2), fun H' q => ⟨_, by omega, rfl, hlt, q⟩, fun x H' hy => ?_⟩
      obtain ⟨Hf3, _, R3⟩ := yld_ok ⟨f2, R2⟩ (yl x H' hy)
      refine ⟨_, Hf3, Γi, _, _, [], Γ3, R3, nbD _, e4, fun σ3 Hf4 l3 s3 _ R4 => ⟨?_, ?_⟩⟩
      · rw [wipe_stay l3 s3]
        exact wipe_stay (by rw [wipe_length]) fun j hj => wipe_get hj
      · have ew : wipe σ3 vs = wipe σ vs := by
          rw [wipe_stay l3 s3]
          exact wipe_stay (by rw [wipe_length]) fun j hj => wipe_get hj
        refine ⟨_, Hf4, Γ3, _, true, Γ3, R4, rfl, fun Hf5 H5 R5 => ?_⟩
        simp only [if_true]
        refine ⟨_, Hf5, Γ3, _, items1, Γ5, R5, e5, fun J1 Hf6 H6 ⟨f6, R6⟩ hJ1 => ?_⟩
        have RB6 := base2 R6
        generalize eB6 : (⟨Hf6, H6, fun a => (∃ i, a ∈ f6 i) ∨ ∃ p ∈ [(⟨V.ref D, .own (.lst acc), [D]⟩ : Pend)], a ∈ p.fp⟩ : Base) = B6 at RB6
        have exB6 : B6.Hf = Hf6 := by rw [← eB6]
        refine ⟨fun j k H' => k = items1.length - j ∧ j ≤ items1.length ∧ ∃ Hf' Γj acc', Reach K B6 Hf' H' (wipe σ3 vs1) Γj [⟨.ref D, .own (.lst acc'), [D]⟩] ∧ lcL g1 mYes me vs1 (items1.drop j) acc' Γj = some (acc6, Γ6),
          ⟨_, rfl, Nat.zero_le _, Hf6, _, acc, RB6.wiped (nbD _) vs1, e6⟩, ?_⟩
        rintro j k H7 ⟨rfl, hjl, Hf7, Γj, accj, ⟨f7, R7⟩, e7⟩
        have ex7 : Ex Hf6 Hf7 := exB6 ▸ R7.ex
        by_cases hjt : j < items1.length
        · have hx1 : items1[j]? = some items1[j] := by simp [hjt]
          obtain ⟨go1, yl1⟩ := (hJ1 Hf7 H7 ex7 R7.sub j).1 _ hx1
          rw [List.drop_eq_getElem_cons hjt] at e7
          obtain ⟨Γ8, e8, e7⟩ := bindE e7
          obtain ⟨⟨b9, Γ9⟩, e9, e7⟩ := bindE e7
          cases e9
          simp only [if_true] at e7
          obtain ⟨⟨s10, Γ10⟩, e10, e7⟩ := bindE e7
          obtain ⟨⟨d11, Γ11⟩, e11, e7⟩ := bindE e7
          simp only at e7
          split at e7
          · rename_i hal
            refine .inr ⟨go1, fun H' => ∃ Hf' Γj acc', Reach K B6 Hf' H' (wipe σ3 vs1) Γj [⟨.ref D, .own (.lst acc'), [D]⟩] ∧ lcL g1 mYes me vs1 (items1.drop (j + 1)) acc' Γj = some (acc6, Γ6), fun H' q => ⟨_, by omega, rfl, hjt, q⟩, fun x1 H8 hy1 => ?_⟩
            obtain ⟨Hf8, ex8, R8⟩ := yld_ok ⟨f7, R7⟩ (yl1 x1 H8 hy1)
            refine ⟨_, Hf8, Γj, _, _, [], Γ8, R8, nbD _, e8, fun σ9 Hf9 l9 s9 ex9 R9 => ?_⟩
            have ew9 : wipe σ9 vs1 = wipe σ3 vs1 := by
              rw [wipe_stay l9 s9]
              exact wipe_stay (by rw [wipe_length]) fun j hj => wipe_get hj
            refine ⟨ew9, _, Hf9, Γ8, _, true, Γ8, R9, rfl, fun Hf10 H10 R10 => ?_⟩
            simp only [if_true]
            refine ⟨_, Hf10, Γ8, _, s10, Γ10, R10, e10, fun y fp Hf11 H11 R11 => ?_⟩
            obtain ⟨Hf12, _, f12, R12⟩ := R11.settle e11
            have dy := (R12.pend _ List.mem_cons_self).2
            have R13 := R12.pop
            obtain ⟨a, ea, efp, hfD, accV, hDa, dacc⟩ : ∃ a, V.ref D = .ref a ∧ [D] = [a] ∧ Hf12 a = none ∧ ∃ xs, H11 a = some (.lst xs) ∧ Dens K Hf12 xs accj := (R13.pend _ List.mem_cons_self)
            cases ea
            refine ⟨accV, hDa, by rw [dacc.length]; exact Nat.lt_of_lt_of_le hal lim_le, ?_⟩
            have R14 := R13.writeP (o' := .lst (accj ++ [d11])) (u := .lst (accV ++ [y])) ⟨rfl, hfD, _, upd_same, dacc.append (.cons dy .nil)⟩
            have := R14.wiped (nbD _) vs1
            rw [ew9] at this
            exact ⟨Hf12, _, _, this, e7⟩
          · cases e7
        · have hje : j = items1.length := by omega
          refine .inl ⟨(hJ1 Hf7 H7 ex7 R7.sub j).2 hje, ?_⟩
          rw [hje, List.drop_length] at e7
          cases e7
          subst eB6
          have R8 := (trans2 R6 R7).wiped (nbD _) vs
          have ew8 : wipe (wipe σ3 vs1) vs = wipe σ vs := by
            rw [wipe_stay (σ := σ3) (by rw [wipe_length]) fun j hj => wipe_get fun z => hj (hv j z)]
            exact ew
          rw [ew8] at R8
          exact ⟨Hf7, _, _, R8, e3⟩
    · have hie : i = items.length := by omega
      refine .inl ⟨(hJ Hf2 H2 R2.ex R2.sub i).2 hie, ?_⟩
      rw [hie, List.drop_length] at e3
      cases e3
      have hp : ∀ v ∈ vs, ∃ s, Γ1[v]? = some s ∧ plainS s = true := fun v hv => by
        have := List.all_eq_true.mp hpl v hv
        split at this
        · rename_i s hs; exact ⟨s, hs, this⟩
        · cases this
      obtain ⟨f3, R3⟩ := R2.remap (σ' := σ) (Γ' := putE Γ2 Γ1 vs) (by rw [wipe_length]) (putE_len _ _ _) (nbD _) fun i s h => by
        rcases putE_get h with ⟨q1, q2⟩ | ⟨q1, q2⟩
        · rcases q1 with q1 | q1
          · exact .inl ⟨q2, (wipe_get q1).symm⟩
          · by_cases hi : i ∈ vs
            · obtain ⟨s', hs', _⟩ := hp i hi
              rw [q1] at hs'
              cases hs'
            · exact .inl ⟨q2, (wipe_get hi).symm⟩
        · obtain ⟨s', hs', hpl'⟩ := hp i q1
          rw [q2] at hs'
          cases hs'
          have q := R1.slot i _ q2
          refine .inr ⟨?_, by intro o z; subst z; cases hpl'⟩
          cases s with
          | no => rfl
          | d x => obtain ⟨_, v, q3, q4⟩ := q; exact ⟨rfl, v, q3, q4.mono R2.ex⟩
          | fn a => exact ⟨rfl, q.2⟩
          | z ds => obtain ⟨_, v, q3, q4⟩ := q; exact ⟨rfl, v, q3, q4.mono R2.ex⟩
          | own o => cases hpl'
          | bor j => cases hpl'
      have R4 := R1.trans R3 (.inr rfl)
      exact kk (.ref D) [D] Hf2 H2 ⟨f3, R4⟩
  · cases e
end
end DL

set_option Elab.async false
set_option linter.all false
set_option maxRecDepth 100000
set_option maxHeartbeats 4000000
namespace PySem
open PySem.W
theorem dl_zip_nolen : typeLookup (.type "zip") "__len__" = pure none := by rw [typeLookup_type, builtinLookup_eq_fast]; kernel_rfl
theorem dl_zip_nohint : typeLookup (.type "zip") "__length_hint__" = pure none := by rw [typeLookup_type, builtinLookup_eq_fast]; kernel_rfl
section
variable {prog : Program} {w : World} {A : Around} {E : Value → Shared → Prop} {s : Shared} {z TI TO i1 i2 T : Addr} {f : Bool} {oT : Obj} {fp1 fp2 : List Addr} {n1 n2 i : Nat} {P1 P2 : Nat → Value → Prop} {St1 St2 : Nat → Heap → Prop} {a1 a2 : Value}
theorem dl_zip_item0 {Q : Value → Shared → Prop} (S : ZipSep2 z TI TO i1 i2 fp1 fp2) (D1 : Draws prog w A i1 fp1 n1 P1 St1) (D2 : Draws prog w A i2 fp2 n2 P2 St2)
    (hz : IsZipHeld s.heap z TI TO T f) (hT : s.heap.get? T = some oT) (hTI : IsTupOf2 s.heap TI (.ref i1) (.ref i2)) (st1 : St1 i s.heap) (st2 : St2 i s.heap) (hlt1 : i < n1) (hlt2 : i < n2)
    (hQ : ∀ x1 x2 h' tk, P1 i x1 → P2 i x2 → IsZipHeld h' z TI TO T true → St1 (i + 1) h' → St2 (i + 1) h' → IsTupOf2 h' s.heap.objs.size x1 x2 → h'.objs.size = s.heap.objs.size + 1 →
      (∀ c o, c ≠ z → c ≠ TO → c ≠ i1 → c ≠ i2 → s.heap.get? c = some o → h'.get? c = some o) → Q (.ref s.heap.objs.size) { s with heap := h', toks := tk }) :
    wpAny (model prog w) A (Builtin.«zip.__next__» ⟨[.ref z], []⟩) (fun fin s' => ∃ v, fin = .done (.ret v) ∧ Q v s') E s := by
  obtain ⟨hp, g, d, tk0, os⟩ := s
  show wpAny _ _ (field (.ref z) 2 >>= _) _ _ _
  refine wpAny_bind (wpAny_field hz rfl (x := .bool false) rfl ?_)
  show wpAny _ _ (field (.ref z) 3 >>= _) _ _ _
  refine wpAny_bind (wpAny_field hz rfl (x := .ref TI) rfl ?_)
  refine wpAny_bind (wpAny_seqItems hTI rfl ?_)
  show wpAny _ _ (Builtin.SmallTypes.ownedTupleIsFree (.ref z) >>= _) _ _ _
  refine wpAny_bind (wpAny_tupleHeld_zip hz hT fun h₁ hz₁ hs₁ => ?_)
  simp only [Bool.false_eq_true, if_false]
  replace hs₁ : Heap.SameBut z hp h₁ := hs₁
  refine wpAny_bind ?_
  rw [← Array.forIn_toList]
  simp only [List.forIn_cons, List.forIn_nil]
  refine wpAny_bind (wpAny_bind (wpAny_holding ?_))
  show wpAny _ _ (Builtin.SmallTypes.nextOf (.ref i1) >>= _) _ _ ⟨h₁, g, d, tk0, os⟩
  refine wpAny_bind (D1.item i _ _ _ hlt1 (D1.over st1 hs₁ S.zf1) fun x1 p1 tk1 hx1 sn1 hp1 => wpAny_pure ?_)
  replace hp1 : Heap.SameBut i1 h₁ p1 := hp1
  refine wpAny_pure ?_
  refine wpAny_bind (wpAny_bind (wpAny_holding ?_))
  show wpAny _ _ (Builtin.SmallTypes.nextOf (.ref i2) >>= _) _ _ ⟨p1, g, d, tk1, os⟩
  refine wpAny_bind (D2.item i _ _ _ hlt2 (D2.over (D2.over st2 hs₁ S.zf2) hp1 S.sep1_2) fun x2 p2 tk2 hx2 sn2 hp2 => wpAny_pure ?_)
  replace hp2 : Heap.SameBut i2 p1 p2 := hp2
  refine wpAny_pure (wpAny_pure ?_)
  show wpAny _ _ (newTuple [x1, x2] >>= _) _ _ ⟨p2, g, d, tk2, os⟩
  refine wpAny_bind (wpAny_newTuple ?_)
  have hsz : p2.objs.size = hp.objs.size := by rw [hp2.1, hp1.1, hs₁.1]
  have hzz : IsZipHeld p2 z TI TO T true := hp2.extBut _ _ S.zi2 (hp1.extBut _ _ S.zi1 hz₁)
  have hkk : ∀ c o, c ≠ z → c ≠ TO → c ≠ i1 → c ≠ i2 → hp.get? c = some o → p2.get? c = some o := fun c o cz cT c1 c2 e => hp2.extBut _ _ c2 (hp1.extBut _ _ c1 (hs₁.extBut _ _ cz e))
  have hj1 : St1 (i + 1) p2 := D1.over sn1 hp2 S.sep2_1
  refine wpAny_pure ⟨_, rfl, ?_⟩
  show Q (.ref p2.objs.size) _
  have hT8 : IsTupOf2 (p2.push { cls := .type "tuple", data := .seq #[x1, x2] }) p2.objs.size x1 x2 := Heap.get?_push_size _ rfl
  have hz8 : (p2.push { cls := .type "tuple", data := .seq #[x1, x2] }).objs.size = p2.objs.size + 1 := Heap.size_push ..
  rw [hsz] at hT8 hz8 ⊢
  exact hQ x1 x2 _ tk2 hx1 hx2 (Heap.get?_push_of_some _ hzz) (D1.frame _ _ _ hj1 fun b hb o e => Heap.get?_push_of_some _ e) (D2.frame _ _ _ sn2 fun b hb o e => Heap.get?_push_of_some _ e) hT8 hz8
    fun c o cz cT c1 c2 e => Heap.get?_push_of_some _ (hkk c o cz cT c1 c2 e)
theorem dl_zip_end0 {Q : Fin → Shared → Prop} (S : ZipSep2 z TI TO i1 i2 fp1 fp2) (D1 : Draws prog w A i1 fp1 n1 P1 St1) (D2 : Draws prog w A i2 fp2 n2 P2 St2)
    (hz : IsZipHeld s.heap z TI TO T f) (hT : s.heap.get? T = some oT) (hTI : IsTupOf2 s.heap TI (.ref i1) (.ref i2)) (st1 : St1 i s.heap) (st2 : St2 i s.heap) (hle1 : i ≤ n1) (hle2 : i ≤ n2) (hend : i = n1 ∨ i = n2)
    (hE : ∀ h' tk e, (∀ c o, c ≠ z → c ≠ TO → c ≠ i1 → c ≠ i2 → s.heap.get? c = some o → h'.get? c = some o) → (∃ o, h'.get? e = some o ∧ o.cls = .type "StopIteration") → E (.ref e) { s with heap := h', toks := tk }) :
    wpAny (model prog w) A (Builtin.«zip.__next__» ⟨[.ref z], []⟩) Q E s := by
  obtain ⟨hp, g, d, tk0, os⟩ := s
  show wpAny _ _ (field (.ref z) 2 >>= _) _ _ _
  refine wpAny_bind (wpAny_field hz rfl (x := .bool false) rfl ?_)
  show wpAny _ _ (field (.ref z) 3 >>= _) _ _ _
  refine wpAny_bind (wpAny_field hz rfl (x := .ref TI) rfl ?_)
  refine wpAny_bind (wpAny_seqItems hTI rfl ?_)
  show wpAny _ _ (Builtin.SmallTypes.ownedTupleIsFree (.ref z) >>= _) _ _ _
  refine wpAny_bind (wpAny_tupleHeld_zip hz hT fun h₁ hz₁ hs₁ => ?_)
  simp only [Bool.false_eq_true, if_false]
  replace hs₁ : Heap.SameBut z hp h₁ := hs₁
  refine wpAny_bind ?_
  rw [← Array.forIn_toList]
  simp only [List.forIn_cons, List.forIn_nil]
  refine wpAny_bind (wpAny_bind (wpAny_holding ?_))
  show wpAny _ _ (Builtin.SmallTypes.nextOf (.ref i1) >>= _) _ _ ⟨h₁, g, d, tk0, os⟩
  by_cases hlt1 : i < n1
  · refine wpAny_bind (D1.item i _ _ _ hlt1 (D1.over st1 hs₁ S.zf1) fun x1 p1 tk1 hx1 sn1 hp1 => wpAny_pure ?_)
    replace hp1 : Heap.SameBut i1 h₁ p1 := hp1
    refine wpAny_pure ?_
    have hi2 : i = n2 := by omega
    refine wpAny_bind (wpAny_bind (wpAny_holding ?_))
    show wpAny _ _ (Builtin.SmallTypes.nextOf (.ref i2) >>= _) _ _ ⟨p1, g, d, tk1, os⟩
    refine wpAny_bind (D2.done ⟨p1, g, d, tk1, os⟩ _ _ (by rw [← hi2]; exact D2.over (D2.over st2 hs₁ S.zf2) hp1 S.sep1_2) fun q e hq he => ?_)
    exact hE q tk1 e (fun c o cz cT c1 c2 x => hq _ _ c2 (hp1.extBut _ _ c1 (hs₁.extBut _ _ cz x))) he
  · have hi1 : i = n1 := by omega
    refine wpAny_bind (D1.done ⟨h₁, g, d, tk0, os⟩ _ _ (by rw [← hi1]; exact D1.over st1 hs₁ S.zf1) fun q e hq he => ?_)
    exact hE q tk0 e (fun c o cz cT c1 c2 x => hq _ _ c1 (hs₁.extBut _ _ cz x)) he
theorem dl_zip_itemH {Q : Option Value → Shared → Prop} (S : ZipSep2 z TI TO i1 i2 fp1 fp2) (D1 : Draws prog w A.in1 i1 fp1 n1 P1 St1) (D2 : Draws prog w A.in1 i2 fp2 n2 P2 St2)
    (hz : IsZipHeld s.heap z TI TO T f) (hT : s.heap.get? T = some oT) (hTI : IsTupOf2 s.heap TI (.ref i1) (.ref i2)) (st1 : St1 i s.heap) (st2 : St2 i s.heap) (hlt1 : i < n1) (hlt2 : i < n2)
    (hQ : ∀ x1 x2 h' tk, P1 i x1 → P2 i x2 → IsZipHeld h' z TI TO T true → St1 (i + 1) h' → St2 (i + 1) h' → IsTupOf2 h' s.heap.objs.size x1 x2 → h'.objs.size = s.heap.objs.size + 1 →
      (∀ c o, c ≠ z → c ≠ TO → c ≠ i1 → c ≠ i2 → s.heap.get? c = some o → h'.get? c = some o) → Q (some (.ref s.heap.objs.size)) { s with heap := h', toks := tk }) :
    wpAny (model prog w) A (pyNext (.ref z)) Q E s := by
  have hT' : s.TypeIs (.ref z) "zip" := ⟨_, hz, rfl⟩
  unfold pyNext
  exact wpAny_bind (wpAny_attempt (wpAny_callSpecial?_slot (name := Str.ofString "__next__") hT' F.slot_zip_next
    (wpAny_call_entry F.slot_zip_next hT' F.entry_zip_next
      (dl_zip_item0 S D1 D2 hz hT hTI st1 st2 hlt1 hlt2 fun x1 x2 h' tk y1 y2 b1 d1 d2 b5 b6 b7 => wpAny_pure (hQ x1 x2 h' tk y1 y2 b1 d1 d2 b5 b6 b7)) (F.args_zip_next_1 _))))
theorem dl_zip_endH {Q : Option Value → Shared → Prop} (S : ZipSep2 z TI TO i1 i2 fp1 fp2) (D1 : Draws prog w A.in1 i1 fp1 n1 P1 St1) (D2 : Draws prog w A.in1 i2 fp2 n2 P2 St2)
    (hz : IsZipHeld s.heap z TI TO T f) (hT : s.heap.get? T = some oT) (hTI : IsTupOf2 s.heap TI (.ref i1) (.ref i2)) (st1 : St1 i s.heap) (st2 : St2 i s.heap) (hle1 : i ≤ n1) (hle2 : i ≤ n2) (hend : i = n1 ∨ i = n2)
    (hQ : ∀ h' tk, (∀ c o, c ≠ z → c ≠ TO → c ≠ i1 → c ≠ i2 → s.heap.get? c = some o → h'.get? c = some o) → Q none { s with heap := h', toks := tk }) : wpAny (model prog w) A (pyNext (.ref z)) Q E s := by
  have hT' : s.TypeIs (.ref z) "zip" := ⟨_, hz, rfl⟩
  unfold pyNext
  refine wpAny_bind (wpAny_attempt (wpAny_callSpecial?_slot (name := Str.ofString "__next__") hT' F.slot_zip_next
    (wpAny_call_entry F.slot_zip_next hT' F.entry_zip_next (dl_zip_end0 S D1 D2 hz hT hTI st1 st2 hle1 hle2 hend fun h' tk e hk he => ?_) (F.args_zip_next_1 _))))
  obtain ⟨o, ho, hc⟩ := he
  refine wpAny_bind (wpAny_isInstance (T := "StopIteration") (b := true) ⟨o, ho, hc⟩ isSubtype_stop ?_)
  exact wpAny_pure (hQ _ _ hk)
/-- a zip between its turns where what it handed out is kept -/
def ZipS (h : Heap) (z TI TO i1 i2 : Addr) : Prop := (IsZip h z TI TO .none ∧ ∃ a b, IsTupOf2 h TO a b) ∨ ∃ T f oT, IsZipHeld h z TI TO T f ∧ h.get? T = some oT ∧ T ≠ z ∧ T ≠ TO ∧ T ≠ i1 ∧ T ≠ i2
theorem ZipS.at {h h' : Heap} (st : ZipS h z TI TO i1 i2) (hz : ∀ o, h.get? z = some o → h'.get? z = some o) (hT : ∀ o, h.get? TO = some o → h'.get? TO = some o) (hk : ∀ b o, h.get? b = some o → ∃ o', h'.get? b = some o') : ZipS h' z TI TO i1 i2 := by
  rcases st with ⟨q1, a, b, q2⟩ | ⟨T, f, oT, q1, q2, q3⟩
  · exact .inl ⟨hz _ q1, a, b, hT _ q2⟩
  · obtain ⟨o', e⟩ := hk T oT q2
    exact .inr ⟨T, f, o', hz _ q1, e, q3⟩
theorem ZipS.lt (st : ZipS s.heap z TI TO i1 i2) : z < s.heap.objs.size := by
  rcases st with ⟨q1, _⟩ | ⟨T, f, oT, q1, _⟩
  · exact Heap.lt_size q1
  · exact Heap.lt_size q1
theorem ZipS.type (st : ZipS s.heap z TI TO i1 i2) : s.TypeIs (.ref z) "zip" := by
  rcases st with ⟨q1, _⟩ | ⟨T, f, oT, q1, _⟩
  · exact ⟨_, q1, rfl⟩
  · exact ⟨_, q1, rfl⟩
theorem dl_zip_item {Q : Option Value → Shared → Prop} (S : ZipSep2 z TI TO i1 i2 fp1 fp2) (D1 : Draws prog w A.in1 i1 fp1 n1 P1 St1) (D2 : Draws prog w A.in1 i2 fp2 n2 P2 St2)
    (hz : ZipS s.heap z TI TO i1 i2) (hTI : IsTupOf2 s.heap TI (.ref i1) (.ref i2)) (st1 : St1 i s.heap) (st2 : St2 i s.heap) (hlt1 : i < n1) (hlt2 : i < n2) (hTOs : TO < s.heap.objs.size)
    (hQ : ∀ x1 x2 h' tk, P1 i x1 → P2 i x2 → ZipS h' z TI TO i1 i2 → IsTupOf2 h' TI (.ref i1) (.ref i2) → St1 (i + 1) h' → St2 (i + 1) h' → IsTupOf2 h' s.heap.objs.size x1 x2 → h'.objs.size = s.heap.objs.size + 1 →
      (∀ c o, c ≠ z → c ≠ TO → c ≠ i1 → c ≠ i2 → s.heap.get? c = some o → h'.get? c = some o) → Q (some (.ref s.heap.objs.size)) { s with heap := h', toks := tk }) :
    wpAny (model prog w) A (pyNext (.ref z)) Q E s := by
  have hzs := hz.lt
  obtain ⟨o1, ho1⟩ := D1.live _ _ st1
  obtain ⟨o2, ho2⟩ := D2.live _ _ st2
  rcases hz with ⟨hz, a, b, hTO⟩ | ⟨T, f, oT, hz, hT, hTz, hTTO, t1, t2⟩
  · exact wpAny_pyNext_zipD2_item S D1 D2 hz hTI hTO st1 st2 hlt1 hlt2 fun x1 x2 h' tk y1 y2 b1 b2 d1 d2 b5 b6 b7 =>
      hQ x1 x2 h' tk y1 y2 (.inr ⟨_, false, _, b1, b5, Nat.ne_of_gt hzs, Nat.ne_of_gt hTOs, Nat.ne_of_gt (Heap.lt_size ho1), Nat.ne_of_gt (Heap.lt_size ho2)⟩) (b7 _ _ S.TIz S.TITO S.TIi1 S.TIi2 hTI) d1 d2 b5 b6 b7
  · exact dl_zip_itemH S D1 D2 hz hT hTI st1 st2 hlt1 hlt2 fun x1 x2 h' tk y1 y2 b1 d1 d2 b5 b6 b7 =>
      hQ x1 x2 h' tk y1 y2 (.inr ⟨T, true, oT, b1, b7 T oT hTz hTTO t1 t2 hT, hTz, hTTO, t1, t2⟩) (b7 _ _ S.TIz S.TITO S.TIi1 S.TIi2 hTI) d1 d2 b5 b6 b7
theorem dl_zip_end {Q : Option Value → Shared → Prop} (S : ZipSep2 z TI TO i1 i2 fp1 fp2) (D1 : Draws prog w A.in1 i1 fp1 n1 P1 St1) (D2 : Draws prog w A.in1 i2 fp2 n2 P2 St2)
    (hz : ZipS s.heap z TI TO i1 i2) (hTI : IsTupOf2 s.heap TI (.ref i1) (.ref i2)) (st1 : St1 i s.heap) (st2 : St2 i s.heap) (hle1 : i ≤ n1) (hle2 : i ≤ n2) (hend : i = n1 ∨ i = n2)
    (hQ : ∀ h' tk, (∀ c o, c ≠ z → c ≠ TO → c ≠ i1 → c ≠ i2 → s.heap.get? c = some o → h'.get? c = some o) → Q none { s with heap := h', toks := tk }) : wpAny (model prog w) A (pyNext (.ref z)) Q E s := by
  rcases hz with ⟨hz, a, b, hTO⟩ | ⟨T, f, oT, hz, hT, hTz, hTTO, t1, t2⟩
  · exact wpAny_pyNext_zipD2_end S D1 D2 hz hTI hTO st1 st2 hle1 hle2 hend hQ
  · exact dl_zip_endH S D1 D2 hz hT hTI st1 st2 hle1 hle2 hend hQ
end
end PySem
namespace L2
open PySem PySem.W
def ZR (S : Addr) : List (V × V) → List V → Hp → (Hp → Prop) → Prop
  | [], _, H, q => q H
  | p :: r, acc, H, q => ∀ T, H T = none → ZR S r (acc ++ [.ref T]) (upd (upd H T (.tup [p.1, p.2])) S (.lst (acc ++ [.ref T]))) q
section
variable {X : Cx} {pins : List (Addr × Obj)} {σ : St} {A : Around} {R : Result → Shared → Prop} {z TI TO i1 i2 S : Addr} {fp1 fp2 : List Addr} {St1 St2 : Nat → Heap → Prop} {xs ys : List V} {its1 its2 : List Value} {q : Hp → Prop} {res : Value}
theorem dl_zip_loop (Sp : ZipSep2 z TI TO i1 i2 fp1 fp2) (D1 : Draws X.prog X.w A.in1.in1 i1 fp1 its1.length (fun i v => its1[i]? = some v) St1) (D2 : Draws X.prog X.w A.in1.in1 i2 fp2 its2.length (fun i v => its2[i]? = some v) St2)
    (r1 : Vals xs its1) (r2 : Vals ys its2) (hS1 : S ∉ fp1) (hS2 : S ∉ fp2) (hST : S ≠ TI) (hn : xs.length ≤ sizeLine) (hR : ∀ H s, Inv X pins σ H s → q H → R (.ok (.ret res)) s) :
    ∀ (k i : Nat) (s : Shared) (H : Hp) (acc : List V), min xs.length ys.length - i = k → i ≤ min xs.length ys.length → Inv X pins σ H s → H S = some (.lst acc) → acc.length = i → ZipS s.heap z TI TO i1 i2 → IsTupOf2 s.heap TI (.ref i1) (.ref i2) →
      St1 i s.heap → St2 i s.heap → TO < s.heap.objs.size → (∀ b ∈ [z, TO, i1, i2], FpOk X pins H b) → ZR S ((xs.zip ys).drop i) acc H q →
      codeAny (model X.prog X.w) A (.builtin "list.extend.loop" ⟨[.ref S, .ref z, res], []⟩) R s := by
  have l1 : xs.length = its1.length := r1.length
  have l2 : ys.length = its2.length := r2.length
  have hne1 : ∀ {H : Hp} {acc : List V} {b : Addr}, H S = some (.lst acc) → FpOk X pins H b → S ≠ b := fun {H acc b} hH hf e => by
    have hh := hf.1
    rw [← e, hH] at hh
    cases hh
  have hne : ∀ {H : Hp} {acc : List V}, H S = some (.lst acc) → (∀ b ∈ [z, TO, i1, i2], FpOk X pins H b) → S ≠ z ∧ S ≠ TO ∧ S ≠ i1 ∧ S ≠ i2 := fun {H acc} hH hf =>
    ⟨hne1 hH (hf z (by simp)), hne1 hH (hf TO (by simp)), hne1 hH (hf i1 (by simp)), hne1 hH (hf i2 (by simp))⟩
  intro k
  induction k with
  | zero =>
    intro i s H acc hk hi I hH hacc hz hTI st1 st2 hTO hf hq
    obtain ⟨e1, e2, e3, e4⟩ := hne hH hf
    refine codeAny_builtin PySem.F.entry_extend_loop ?_
    rw [Around.under_plainId PySem.F.plain_extend_loop _]
    show wpAny _ A.in1 (pyNext (.ref z) >>= _) _ _ s
    refine wpAny_bind (dl_zip_end Sp D1 D2 hz hTI st1 st2 (by omega) (by omega) (by omega) fun h' tk hk' => ?_)
    have I' : Inv X pins σ H { s with heap := h', toks := tk } := I.turnedL (t' := tk) (ch := [z, TO, i1, i2]) (fun b o hb e => hk' b o (fun x => hb (by simp [x])) (fun x => hb (by simp [x])) (fun x => hb (by simp [x])) (fun x => hb (by simp [x])) e) hf
    refine wpAny_pure (hR H _ I' ?_)
    have hd : (xs.zip ys).drop i = [] := List.drop_eq_nil_of_le (by rw [List.length_zip]; omega)
    rw [hd] at hq
    exact hq
  | succ k ih =>
    intro i s H acc hk hi I hH hacc hz hTI st1 st2 hTO hf hq
    obtain ⟨e1, e2, e3, e4⟩ := hne hH hf
    have hx : i < xs.length := by omega
    have hy : i < ys.length := by omega
    refine codeAny_builtin PySem.F.entry_extend_loop ?_
    rw [Around.under_plainId PySem.F.plain_extend_loop _]
    show wpAny _ A.in1 (pyNext (.ref z) >>= _) _ _ s
    refine wpAny_bind (dl_zip_item Sp D1 D2 hz hTI st1 st2 (by omega) (by omega) hTO fun x1 x2 h' tk p1 p2 hz' hTI' st1' st2' hT hsz hk' => ?_)
    have hTn : H s.heap.objs.size = none := I.hok.fresh (Nat.le_refl _)
    obtain ⟨v1, hv1, rv1⟩ := r1.get (show xs[i]? = some xs[i] by simp [hx])
    obtain ⟨v2, hv2, rv2⟩ := r2.get (show ys[i]? = some ys[i] by simp [hy])
    have ex1 : x1 = v1 := Option.some.inj (p1.symm.trans hv1)
    have ex2 : x2 = v2 := Option.some.inj (p2.symm.trans hv2)
    subst ex1 ex2
    have new : ObjOk X.prog X.w (upd H s.heap.objs.size (.tup [xs[i], ys[i]])) h' s.heap.objs.size (.tup [xs[i], ys[i]]) :=
      ⟨by show 2 ≤ sizeLine; decide, [x1, x2], .cons rv1 (.cons rv2 .nil), ⟨_, hT, rfl, _, rfl⟩⟩
    have I1 : Inv X pins σ (upd H s.heap.objs.size (.tup [xs[i], ys[i]])) { s with heap := h', toks := tk } :=
      I.turnedNew (ch := [z, TO, i1, i2]) (fun b o hb e => hk' b o (fun x => hb (by simp [x])) (fun x => hb (by simp [x])) (fun x => hb (by simp [x])) (fun x => hb (by simp [x])) e) hf (Nat.le_refl _) new
    have hST' : S ≠ s.heap.objs.size := fun e => by rw [← e, hH] at hTn; cases hTn
    have hH1 : (upd H s.heap.objs.size (.tup [xs[i], ys[i]])) S = some (.lst acc) := by rw [upd_ne hST']; exact hH
    obtain ⟨hz0, its, n0, ra, la, ea⟩ := I1.lstM hH1
    have I2 := I1.lset (its' := its ++ [.ref s.heap.objs.size]) (f := (·.push (.ref s.heap.objs.size))) (t' := tk) hH1 ea (by simp) (ra.append (.cons (show RelV (.ref s.heap.objs.size) (.ref s.heap.objs.size) from rfl) .nil)) (by rw [List.length_append, List.length_singleton]; omega)
    have oth : ∀ b o, b ≠ S → h'.get? b = some o → (h'.update S (Obj.mapSeq (·.push (Value.ref s.heap.objs.size)))).get? b = some o := fun b o hb e => (Heap.get?_update_other _ _ (Ne.symm hb)).trans e
    have hSS : (h'.update S (Obj.mapSeq (·.push (Value.ref s.heap.objs.size)))).get? S = _ := Heap.get?_update_self (Obj.mapSeq (·.push (Value.ref s.heap.objs.size))) ea rfl
    show wpAny _ A.in1 (updateSeq S (·.push (.ref s.heap.objs.size)) >>= _) _ _ _
    refine wpAny_bind ?_
    refine wpAny_updateSeq ea rfl (wpAny_pure ⟨plainId_quiet PySem.F.plain_extend_loop _, ih (i + 1) _ _ (acc ++ [.ref s.heap.objs.size]) (by omega) (by omega) I2 upd_same (by simp [hacc]) ?_ (oth _ _ (Ne.symm hST) hTI') ?_ ?_ ?_ (fun b hb => ?_) ?_⟩) (by rw [List.size_toArray, ← la, hacc]; omega) (by
        show (its.toArray.push (Value.ref s.heap.objs.size)).size ≤ sizeLine + 1
        rw [Array.size_push, List.size_toArray, ← la, hacc]; omega)
    · exact hz'.at (fun o e => oth _ _ (Ne.symm e1) e) (fun o e => oth _ _ (Ne.symm e2) e) fun b o e => by
        by_cases hb : b = S
        · rw [hb]; exact ⟨_, hSS⟩
        · exact ⟨_, oth b o hb e⟩
    · exact D1.frame _ _ _ st1' fun b hb o e => oth b o (fun x => hS1 (x ▸ hb)) e
    · exact D2.frame _ _ _ st2' fun b hb o e => oth b o (fun x => hS2 (x ▸ hb)) e
    · have : TO < h'.objs.size := by rw [hsz]; exact Nat.lt_succ_of_lt hTO
      exact Nat.lt_of_lt_of_eq this (by simp [Heap.update])
    · obtain ⟨f0, f1⟩ := hf b hb
      refine ⟨?_, f1⟩
      have hbS : b ≠ S := fun e => by rw [e, hH] at f0; cases f0
      have hbT : b ≠ s.heap.objs.size := fun e => by
        simp only [List.mem_cons, List.not_mem_nil, or_false] at hb
        obtain ⟨o1, ho1⟩ := D1.live _ _ st1
        obtain ⟨o2, ho2⟩ := D2.live _ _ st2
        have nn : ∀ {c : Addr}, c < s.heap.objs.size → b = c → False := fun hl e' => Nat.lt_irrefl _ (show s.heap.objs.size < s.heap.objs.size from by
          rw [← e] at hl ⊢
          rw [e'] at e
          rw [e'] at hl ⊢
          exact hl)
        rcases hb with q' | q' | q' | q'
        · exact nn hz.lt q'
        · exact nn hTO q'
        · exact nn (Heap.lt_size ho1) q'
        · exact nn (Heap.lt_size ho2) q'
      rw [upd_ne hbS, upd_ne hbT]
      exact f0
    · have hd : (xs.zip ys).drop i = (xs[i], ys[i]) :: (xs.zip ys).drop (i + 1) := by
        rw [List.drop_eq_getElem_cons (by rw [List.length_zip]; omega)]
        simp
      rw [hd] at hq
      exact hq _ hTn
theorem dl_zip_init {s : Shared} {H : Hp} {a b : Value} (Sp : ZipSep2 z TI TO i1 i2 fp1 fp2) (D1 : Draws X.prog X.w A.in1.in1 i1 fp1 its1.length (fun i v => its1[i]? = some v) St1)
    (D2 : Draws X.prog X.w A.in1.in1 i2 fp2 its2.length (fun i v => its2[i]? = some v) St2) (r1 : Vals xs its1) (r2 : Vals ys its2) (hn : xs.length ≤ sizeLine) (I0 : Inv X pins σ H s) (hH : H S = some (.lst [])) (hS : s.heap.get? S = some { cls := .type "list", data := .seq #[] })
    (hz : IsZip s.heap z TI TO .none) (hTO : IsTupOf2 s.heap TO a b) (hTI : IsTupOf2 s.heap TI (.ref i1) (.ref i2)) (st1 : St1 0 s.heap) (st2 : St2 0 s.heap) (hS1 : S ∉ fp1) (hS2 : S ∉ fp2) (hSz : S ≠ z) (hSTO : S ≠ TO) (hSTI : S ≠ TI)
    (hf : ∀ b ∈ [z, TO, i1, i2], FpOk X pins H b) (hq : ZR S (xs.zip ys) [] H q) (hR : ∀ H s, Inv X pins σ H s → q H → R (.ok (.ret .none)) s) :
    wpAny (model X.prog X.w) A.in1 (Builtin.«list.__init__» ⟨[.ref S, .ref z], []⟩)
      (fun fin s' => match fin with | .done f => R (.ok f) s' | .again c' => c'.quiet = true ∧ codeAny (model X.prog X.w) A c' R s') (fun e s' => R (.error e) s') s := by
  show wpAny _ _ (do let old ← Builtin.List.listItems (.ref S); Builtin.List.listUpdate (.ref S) (fun _ => #[]); letGo old.toList.reverse; Builtin.List.listExtendWith (.ref S) (.ref z) .none) _ _ _
  refine wpAny_bind ?_
  unfold Builtin.List.listItems
  refine wpAny_bind (wpAny_seqItems hS rfl (wpAny_pure ?_))
  show wpAny _ _ (updateSeq S (fun _ => #[]) >>= fun _ => letGo (#[] : Array Value).toList.reverse >>= fun _ => Builtin.List.listExtendWith (.ref S) (.ref z) .none) _ _ _
  refine wpAny_bind (wpAny_updateSeq hS rfl ?_)
  have hS₂ := Heap.get?_update_self (Obj.mapSeq (fun _ => (#[] : Array Value))) hS rfl
  have I1 := I0.lset (its := []) (its' := []) (f := fun _ => #[]) (ys := []) (t' := s.toks) hH hS rfl .nil (Nat.zero_le _)
  rw [upd_self hH] at I1
  have o1 : ∀ c o, c ≠ S → s.heap.get? c = some o → (s.heap.update S (Obj.mapSeq (fun _ => (#[] : Array Value)))).get? c = some o :=
    fun c o hc e => (Heap.get?_update_other _ _ (Ne.symm hc)).trans e
  refine wpAny_bind (wpAny_letGo ?_)
  generalize hg1 : s.heap.update S (Obj.mapSeq (fun _ => (#[] : Array Value))) = g1 at hS₂ I1 o1 ⊢
  have hz1 : IsZip g1 z TI TO .none := o1 _ _ hSz.symm hz
  have hTy : ({ s with heap := g1 } : Shared).TypeIs (.ref z) "zip" := ⟨_, hz1, rfl⟩
  unfold Builtin.List.listExtendWith
  refine wpAny_bind (wpAny_typeOf hTy ?_)
  have h1 : Builtin.List.listSameRef (.ref S) (.ref z) = false := by simp [Builtin.List.listSameRef, hSz]
  have h2 : (Value.type "zip" == Value.type "list") = false := by decide
  have h3 : (Value.type "zip" == Value.type "tuple") = false := by decide
  simp only [h1, h2, h3, Bool.or_false, Bool.false_eq_true, if_false]
  refine wpAny_bind (wpAny_pyIter_zip hz1 ?_)
  refine wpAny_bind (wpAny_holding ?_)
  unfold Builtin.List.listLengthHint
  refine wpAny_bind (wpAny_specialOf hTy dl_zip_nolen ?_)
  show wpAny _ _ (specialOf (Value.ref z) (Str.ofString "__length_hint__") >>= _) _ _ _
  refine wpAny_bind (wpAny_specialOf hTy dl_zip_nohint ?_)
  refine wpAny_pure ?_
  show wpAny _ _ (rule "list.extend.makes-room" >>= fun _ => Builtin.List.listTouch (.ref S) >>= fun _ => again (.builtin "list.extend.loop" ⟨[.ref S, .ref z, .none], []⟩)) _ _ _
  refine wpAny_bind (wpAny_rule ?_)
  refine wpAny_bind ?_
  show wpAny _ _ (updateSeq S (·.push .none) >>= fun _ => updateSeq S (·.pop)) _ _ _
  refine wpAny_bind (wpAny_updateSeq hS₂ rfl ?_)
  have hS₃ := Heap.get?_update_self (Obj.mapSeq (·.push Value.none)) hS₂ rfl
  refine wpAny_updateSeq (hz := by seq_fits) hS₃ rfl ?_
  have hS₄ := Heap.get?_update_self (Obj.mapSeq (·.pop)) hS₃ rfl
  have I2 := I1.lset (its := []) (its' := [.none]) (f := (·.push .none)) (ys := [.non]) (t' := s.toks) hH hS₂ rfl (.cons rfl .nil) (by show 1 ≤ sizeLine; decide)
  have I3 := I2.lset (its := [.none]) (its' := []) (f := (·.pop)) (ys := []) (t' := s.toks) upd_same hS₃ rfl .nil (Nat.zero_le _)
  rw [upd_upd, upd_self hH] at I3
  have o2 : ∀ c o, c ≠ S → s.heap.get? c = some o → ((g1.update S (Obj.mapSeq (·.push Value.none))).update S (Obj.mapSeq (·.pop))).get? c = some o :=
    fun c o hc e => (Heap.get?_update_other _ _ (Ne.symm hc)).trans ((Heap.get?_update_other _ _ (Ne.symm hc)).trans (o1 c o hc e))
  have hTO3 : IsTupOf2 ((g1.update S (Obj.mapSeq (·.push Value.none))).update S (Obj.mapSeq (·.pop))) TO a b := o2 _ _ hSTO.symm hTO
  exact wpAny_pure ⟨plainId_quiet PySem.F.plain_extend_loop _, dl_zip_loop (q := q) (A := A) Sp D1 D2 r1 r2 hS1 hS2 hSTI hn hR
    _ 0 _ _ [] rfl (Nat.zero_le _) I3 hH rfl (.inl ⟨o2 _ _ hSz.symm hz, a, b, hTO3⟩) (o2 _ _ hSTI.symm hTI)
    (D1.frame 0 _ _ st1 fun b hb o e => o2 b o (fun x => hS1 (x ▸ hb)) e) (D2.frame 0 _ _ st2 fun b hb o e => o2 b o (fun x => hS2 (x ▸ hb)) e)
    (Heap.lt_size hTO3) hf (by simpa using hq)⟩
theorem dl_list_zip {E : Value → Shared → Prop} {Q : VK} {s : Shared} {H : Hp} {a b : Value} (Sp : ZipSep2 z TI TO i1 i2 fp1 fp2) (D1 : ∀ A' : Around, A'.handled = none → Draws X.prog X.w A' i1 fp1 its1.length (fun i v => its1[i]? = some v) St1)
    (D2 : ∀ A' : Around, A'.handled = none → Draws X.prog X.w A' i2 fp2 its2.length (fun i v => its2[i]? = some v) St2) (hh : A.handled = none) (r1 : Vals xs its1) (r2 : Vals ys its2) (hn : xs.length ≤ sizeLine) (I : Inv X pins σ H s)
    (hz : IsZip s.heap z TI TO .none) (hTO : IsTupOf2 s.heap TO a b) (hTI : IsTupOf2 s.heap TI (.ref i1) (.ref i2)) (st1 : St1 0 s.heap) (st2 : St2 0 s.heap) (hfp1 : ∀ b ∈ fp1, b < s.heap.objs.size) (hfp2 : ∀ b ∈ fp2, b < s.heap.objs.size)
    (hf : ∀ b ∈ [z, TO, i1, i2], FpOk X pins H b) (hq : ∀ S, H S = none → ZR S (xs.zip ys) [] (upd H S (.lst [])) (Q (.ref S))) :
    wpAny (model X.prog X.w) A (call (.type "list") [.ref z]) (EP X pins σ Q) E s := by
  have hSn : H s.heap.objs.size = none := I.fresh
  refine callType_codes (Q₁ := fun obj s₁ => obj = .ref s.heap.objs.size ∧ s₁ = { s with heap := s.heap.push { cls := .type "list", data := .seq #[] } }) PySem.F.called_list (PySem.F.typeCall_list_1 _) PySem.F.entry_list_init
    (code_list_new _ ⟨rfl, rfl⟩) fun obj s₁ h₁ => ?_
  obtain ⟨rfl, rfl⟩ := h₁
  have hS : (s.heap.push { cls := .type "list", data := .seq #[] }).get? s.heap.objs.size = some { cls := .type "list", data := .seq #[] } := Heap.get?_push_size _ rfl
  have I0 : Inv X pins σ (upd H s.heap.objs.size (.lst [])) { s with heap := s.heap.push { cls := .type "list", data := .seq #[] } } := I.lnew (its := []) (ys := []) (t' := s.toks) .nil (Nat.zero_le _)
  have hT0 : ∀ c o, s.heap.get? c = some o → s.heap.objs.size ≠ c := fun c o hc => Nat.ne_of_gt (Heap.lt_size hc)
  have up : ∀ c o, s.heap.get? c = some o → (s.heap.push { cls := .type "list", data := .seq #[] }).get? c = some o := fun c o e => Heap.get?_push_of_some _ e
  refine ⟨⟨_, hS, rfl⟩, PySem.F.args_list_init_2 _ _, dl_zip_init (A := A.in1) (q := Q (.ref s.heap.objs.size)) Sp (D1 _ hh) (D2 _ hh) r1 r2 hn I0 upd_same hS (up _ _ hz) (up _ _ hTO) (up _ _ hTI) ((D1 _ hh).frame 0 _ _ st1 fun b hb o e => up b o e) ((D2 _ hh).frame 0 _ _ st2 fun b hb o e => up b o e)
    (fun z => Nat.lt_irrefl _ (hfp1 _ z)) (fun z => Nat.lt_irrefl _ (hfp2 _ z)) (hT0 _ _ hz) (hT0 _ _ hTO) (hT0 _ _ hTI) (fun b hb => ?_) (hq _ hSn) fun H' s' I' q' => ⟨rfl, .ref s.heap.objs.size, H', I', rfl, q'⟩⟩
  obtain ⟨f0, f1⟩ := hf b hb
  refine ⟨?_, f1⟩
  have hbS : b ≠ s.heap.objs.size := by
    simp only [List.mem_cons, List.not_mem_nil, or_false] at hb
    obtain ⟨o1', ho1⟩ := (D1 _ hh).live _ _ st1
    obtain ⟨o2', ho2⟩ := (D2 _ hh).live _ _ st2
    rcases hb with q' | q' | q' | q'
    · rw [q']; exact (hT0 _ _ hz).symm
    · rw [q']; exact (hT0 _ _ hTO).symm
    · rw [q']; exact (hT0 _ _ ho1).symm
    · rw [q']; exact (hT0 _ _ ho2).symm
  rw [upd_ne hbS]
  exact f0
def tListZip (K : PySem.W.Frag) (ta : TA) : TE := fun σ H Q => ta σ H fun vs H1 => ∃ a b xs ys, vs = [.ref a, .ref b] ∧ ((SqL K H1 a xs ∧ SqL K H1 b ys) ∨ (SqT K H1 a xs ∧ SqT K H1 b ys)) ∧ ∀ S, H1 S = none → ZR S (xs.zip ys) [] (upd H1 S (.lst [])) (Q (.ref S))
theorem pe_listZip {e e2 : Expr} {ta : TA} {p p2 q0 pos : Pos} (hc : X.calm = true) (hg : Gl X "list") (hm : X.mg "list" = none) (hg2 : Gl X "zip") (hm2 : X.mg "zip" = none) (ha : PA X [e, e2] ta)
    (na : starEach [.Call (.Name "zip" p2) [e, e2] [] q0] X.env = (false, eval (.Call (.Name "zip" p2) [e, e2] [] q0) X.env) :: starEach [] X.env := by rfl)
    (hs : starEach [e, e2] X.env = (false, eval e X.env) :: starEach [e2] X.env := by rfl) (hpl : (backTo q0 (starEach [e2] X.env)).any (·.1) = false := by rfl) :
    PE X (.Call (.Name "list" p) [.Call (.Name "zip" p2) [e, e2] [] q0] [] pos) (tListZip X.K ta) := by
  refine ⟨fun pins s σ H Q I h => ?_⟩
  refine PyProof.Rows.Call_ (ld_blt I hg hm PyProof.Rows.boot_list ?_)
  refine PyProof.Rows.callWith_type1 (PyProof.Rows.args_cons ?_ na) na rfl
  refine PyProof.Rows.Call_ (ld_blt I hg2 hm2 PyProof.Rows.boot_zip (PyProof.Rows.callWith_type1 (thn (ha.run q0 pins s σ H _ I h) fun us s1 ⟨vs, H1, I1, r1, q1⟩ => ?_) hs hpl))
  obtain ⟨a, b, xs, ys, ex, hq, q1⟩ := q1
  subst ex
  cases r1 with
  | cons r rr =>
    cases rr with
    | cons r' rr =>
      cases rr
      cases r
      cases r'
      have fresh4 : ∀ c, c ∈ [s1.heap.objs.size + 4, s1.heap.objs.size + 3, s1.heap.objs.size, s1.heap.objs.size + 1] → FpOk X pins H1 c := fun c hcm => by
        have e' : c = s1.heap.objs.size + 4 ∨ c = s1.heap.objs.size + 3 ∨ c = s1.heap.objs.size ∨ c = s1.heap.objs.size + 1 := by simpa using hcm
        have hle : s1.heap.objs.size ≤ c := by
          rcases e' with z | z | z | z
          · rw [z]; exact Nat.le_add_right _ _
          · rw [z]; exact Nat.le_add_right _ _
          · rw [z]; exact Nat.le_refl _
          · rw [z]; exact Nat.le_add_right _ _
        exact I1.fpOk hle (I1.hok.fresh hle)
      rcases hq with ⟨hqx, hqy⟩ | ⟨hqx, hqy⟩
      · obtain ⟨its, rv, p1, hz1⟩ := I1.list hqx
        obtain ⟨its2, rv2, p2', _⟩ := I1.list hqy
        refine call_zip_2 p1.isList p2'.isList fun h' hz hTI hTO h1 h2 hsz hk => PyProof.Rows.args_nil ?_
        have I2 : Inv X pins σ H1 { s1 with heap := h' } := I1.kept (t' := s1.toks) hk
        have la := p1.lt
        have lb := p2'.lt
        refine dl_list_zip (fp1 := [s1.heap.objs.size, a]) (fp2 := [s1.heap.objs.size + 1, b]) (zip_sep2 (fp1 := [a]) (fp2 := [b]) (by simpa using la) (by simpa using lb)) (St1 := fun i h => h.IsListIter s1.heap.objs.size a i ∧ h.IsList a its.toArray) (St2 := fun i h => h.IsListIter (s1.heap.objs.size + 1) b i ∧ h.IsList b its2.toArray) (fun A' hA => by simpa using Draws.list (prog := X.prog) (w := X.w) hA s1.heap.objs.size a (Nat.ne_of_lt la) its.toArray) (fun A' hA => by simpa using Draws.list (prog := X.prog) (w := X.w) hA (s1.heap.objs.size + 1) b (Nat.ne_of_lt (Nat.lt_succ_of_lt lb)) its2.toArray)
          (I1.ok.hd hc) rv rv2 hz1 I2 hz hTO hTI ⟨h1, p1.isList.at fun o e => hk a o e⟩ ⟨h2, p2'.isList.at fun o e => hk b o e⟩ (fun c hc => ?_) (fun c hc => ?_) fresh4 q1
        · show c < h'.objs.size
          rw [hsz]
          rcases List.mem_cons.mp hc with z | hc
          · rw [z]; exact Nat.lt_add_of_pos_right (by decide)
          · rw [List.mem_singleton.mp hc]; exact Nat.lt_add_right _ la
        · show c < h'.objs.size
          rw [hsz]
          rcases List.mem_cons.mp hc with z | hc
          · rw [z]; exact Nat.add_lt_add_left (by decide) _
          · rw [List.mem_singleton.mp hc]; exact Nat.lt_add_right _ lb
      · obtain ⟨its, rv, p1, hz1⟩ := I1.tuple hqx
        obtain ⟨its2, rv2, p2', _⟩ := I1.tuple hqy
        have t1 : s1.heap.IsTuple a its.toArray := p1
        have t2 : s1.heap.IsTuple b its2.toArray := p2'
        obtain ⟨oa, hoa, _⟩ := id p1
        obtain ⟨ob, hob, _⟩ := id p2'
        refine RZ.call_zipT t1 t2 fun h' hz hTI hTO h1 h2 hsz hk => PyProof.Rows.args_nil ?_
        have I2 : Inv X pins σ H1 { s1 with heap := h' } := I1.kept (t' := s1.toks) hk
        have la := Heap.lt_size hoa
        have lb := Heap.lt_size hob
        refine dl_list_zip (fp1 := [s1.heap.objs.size, a]) (fp2 := [s1.heap.objs.size + 1, b]) (zip_sep2 (fp1 := [a]) (fp2 := [b]) (by simpa using la) (by simpa using lb)) (St1 := fun i h => h.IsTupleIter s1.heap.objs.size a i ∧ h.IsTuple a its.toArray) (St2 := fun i h => h.IsTupleIter (s1.heap.objs.size + 1) b i ∧ h.IsTuple b its2.toArray) (fun A' hA => by simpa using Draws.tuple (prog := X.prog) (w := X.w) hA s1.heap.objs.size a (Nat.ne_of_lt la) its.toArray) (fun A' hA => by simpa using Draws.tuple (prog := X.prog) (w := X.w) hA (s1.heap.objs.size + 1) b (Nat.ne_of_lt (Nat.lt_succ_of_lt lb)) its2.toArray)
          (I1.ok.hd hc) rv rv2 hz1 I2 hz hTO hTI ⟨h1, t1.at fun o e => hk a o e⟩ ⟨h2, t2.at fun o e => hk b o e⟩ (fun c hc => ?_) (fun c hc => ?_) fresh4 q1
        · show c < h'.objs.size
          rw [hsz]
          rcases List.mem_cons.mp hc with z | hc
          · rw [z]; exact Nat.lt_add_of_pos_right (by decide)
          · rw [List.mem_singleton.mp hc]; exact Nat.lt_add_right _ la
        · show c < h'.objs.size
          rw [hsz]
          rcases List.mem_cons.mp hc with z | hc
          · rw [z]; exact Nat.add_lt_add_left (by decide) _
          · rw [List.mem_singleton.mp hc]; exact Nat.lt_add_right _ lb
end
end L2

set_option Elab.async false
set_option linter.all false
set_option maxRecDepth 100000
set_option maxHeartbeats 4000000
namespace DL
open PySem L2
variable [TabsC]
theorem zr_ok {K : PySem.W.Frag} {B : Base} {σ : St} {Γ : Env} {f : Nat → List Addr} {ps : List Pend} {S : Addr} {q : Hp → Prop} : ∀ {l1 l2 : List Dat} {xs ys acc : List V} {ds : List Dat} {Hf H : Hp},
    ReachF K B Hf H σ Γ f (⟨.ref S, .own (.lst ds), [S]⟩ :: ps) → H S = some (.lst acc) → Dens K Hf xs l1 → Dens K Hf ys l2 →
    (∀ Hf' H', Reach K B Hf' H' σ Γ (⟨.ref S, .own (.lst (ds ++ zipL l1 l2)), [S]⟩ :: ps) → q H') → ZR S (xs.zip ys) acc H q
  | [], _, _, _, acc, ds, Hf, H, R, hA, .nil, _, k => by
    rw [List.zip_nil_left]
    exact k Hf H ⟨f, by simpa [zipL] using R⟩
  | _ :: _, [], _, _, acc, ds, Hf, H, R, hA, .cons _ _, .nil, k => by
    rw [List.zip_nil_right]
    exact k Hf H ⟨f, by simpa [zipL] using R⟩
  | u1 :: l1, u2 :: l2, _, _, acc, ds, Hf, H, R, hA, .cons (v := v1) d1 r1, .cons (v := v2) d2 r2, k => by
    rw [List.zip_cons_cons]
    intro T hT
    have R1 := R.newT hT (.cons d1 (.cons d2 .nil))
    have dT := (R1.pend _ List.mem_cons_self).2
    have R2 := R1.pop
    obtain ⟨a, ea, efp, hfD, accV, hDa, dacc⟩ : ∃ a, V.ref S = .ref a ∧ [S] = [a] ∧ (upd Hf T (.tup [v1, v2])) a = none ∧ ∃ xs, (upd H T (.tup [v1, v2])) a = some (.lst xs) ∧ Dens K (upd Hf T (.tup [v1, v2])) xs ds := R2.pend _ List.mem_cons_self
    cases ea
    have hne : S ≠ T := fun e => by rw [← e, hA] at hT; cases hT
    rw [upd_ne hne, hA] at hDa
    cases hDa
    have R3 := R2.writeP (o' := .lst (ds ++ [.tuple [u1, u2]])) (u := .lst (acc ++ [.ref T])) ⟨rfl, hfD, _, upd_same, dacc.append (.cons dT .nil)⟩
    have ex : Ex Hf (upd Hf T (.tup [v1, v2])) := ex_upd (by
      by_cases h : Hf T = none
      · exact h
      · cases hq : Hf T with
        | none => rfl
        | some o => exact absurd (R.sub _ _ hq) (by rw [hT]; intro z; cases z))
    exact zr_ok R3 upd_same (r1.mono ex) (r2.mono ex) fun Hf' H' R' => k Hf' H' (by
      have e : ds ++ zipL (u1 :: l1) (u2 :: l2) = (ds ++ [.tuple [u1, u2]]) ++ zipL l1 l2 := by simp [zipL]
      rw [e]
      exact R')
section
variable {X : Cx} {K : PySem.W.Frag} {a b c e tg : Expr} {ma mb mc : M} {mt mu : MT} {md : MD} {pos p : Pos} {j k n : Nat} {es : List Expr} {W W2 : List Nat} {g : MG} {gs : MGs} {x : Str} {F : FS} {mr : MA}
def mListZip (ma mb : M) : M := fun Γ => (ma Γ).bind fun p => (settle p.2 p.1).bind fun p' => (mb p'.2).bind fun q => (settle q.2 q.1).bind fun q' => (seqOf p'.1).bind fun l1 => (seqOf q'.1).bind fun l2 =>
  if l1.1 = l2.1 then some (.own (.lst (zipL l1.2 l2.2)), q'.2) else none
theorem d_listZip {p2 q0 : Pos} (c : Cok k X) (ha : PE X a (tM X.K ma)) (hb : PE X b (tM X.K mb)) (hm : X.mg "list" = none) (hm2 : X.mg "zip" = none) (hg : Gl X "list" := by rfl) (hg2 : Gl X "zip" := by rfl)
    (na : starEach [.Call (.Name "zip" p2) [a, b] [] q0] X.env = (false, eval (.Call (.Name "zip" p2) [a, b] [] q0) X.env) :: starEach [] X.env := by rfl) (hs : starEach [a, b] X.env = (false, eval a X.env) :: starEach [b] X.env := by rfl)
    (hs2 : starEach [b] X.env = (false, eval b X.env) :: starEach [] X.env := by rfl) (hpl : (backTo q0 (starEach [b] X.env)).any (·.1) = false := by rfl) :
    PE X (.Call (.Name "list" p) [.Call (.Name "zip" p2) [a, b] [] q0] [] pos) (tM X.K (mListZip ma mb)) := PE.imp (pe_listZip c.calm hg hm hg2 hm2 (pa_cons ha (pa_cons hb pa_nil hs2) hs) na hs hpl) fun σ H Q h => by
  obtain ⟨B, Hf, Γ, ps, r, Γ', R, e, kk⟩ := h
  obtain ⟨⟨s1, Γ1⟩, e1, e⟩ := bindE e
  obtain ⟨⟨d1, Γ2⟩, e2, e⟩ := bindE e
  obtain ⟨⟨s2, Γ3⟩, e3, e⟩ := bindE e
  obtain ⟨⟨d2, Γ4⟩, e4, e⟩ := bindE e
  obtain ⟨⟨b1, l1⟩, e5, e⟩ := bindE e
  obtain ⟨⟨b2, l2⟩, e6, e⟩ := bindE e
  simp only at e
  split at e
  · rename_i hbb
    subst hbb
    cases e
    refine ⟨B, Hf, Γ, ps, s1, Γ1, R, e1, fun x fp1 Hf1 H1 R1 => ?_⟩
    obtain ⟨Hf2, _, R2⟩ := R1.settle e2
    refine ⟨B, Hf2, Γ2, _, s2, Γ3, R2, e3, fun y fp2 Hf3 H3 R3 => ?_⟩
    obtain ⟨Hf4, _, f4, R4⟩ := R3.settle e4
    obtain ⟨q, ys, rfl, dy, qy⟩ := Den.seqF (R4.pend _ List.mem_cons_self).2 e6
    obtain ⟨p, xs, rfl, dx, qx⟩ := Den.seqF (R4.pop.pend _ List.mem_cons_self).2 e5
    refine ⟨p, q, xs, ys, rfl, ?_, fun S hS => ?_⟩
    · rcases qx with ⟨rfl, qx⟩ | ⟨rfl, qx⟩
      · rcases qy with ⟨_, qy⟩ | ⟨z, _⟩
        · exact .inl ⟨Evl.ex_l R4.sub qx, Evl.ex_l R4.sub qy⟩
        · cases z
      · rcases qy with ⟨z, _⟩ | ⟨_, qy⟩
        · cases z
        · exact .inr ⟨Evl.ex_t R4.sub qx, Evl.ex_t R4.sub qy⟩
    · have R5 := R4.pop.pop.newL (xs := []) (ds := []) hS .nil
      exact zr_ok R5 upd_same dx dy fun Hf' H' R' => kk (.ref S) [S] Hf' H' (by simpa using R')
  · cases e
/-! ### two clauses -/
variable {iter iter1 elt tg1 : Expr} {mi mi1 : MI} {g1 : MG} {me : M} {scope : Scope} {own : List (Str × Nat)}
theorem d_lc2 {vs1 : List Nat} (hc : Cok k X) (hi : PI X tg iter (tI X.K mi)) (ok : BlkOk X.N X.env.scope scope own) (hv : ∀ i ∈ vs1, i ∈ own.map (·.2))
    (hg : ∀ (s : Shared) (H : Hp) (C : Addr) (cl : List (Str × Addr)) (fp : List Addr), PG (X.blk s H scope (compEnvC scope cl C X.env) fp) tg (tG X.K (own.map (·.2)) g))
    (hi1 : ∀ (s : Shared) (H : Hp) (C : Addr) (cl : List (Str × Addr)) (fp : List Addr), PI (X.blk s H scope (compEnvC scope cl C X.env) fp) tg1 iter1 (tI X.K mi1))
    (hg1 : ∀ (s : Shared) (H : Hp) (C : Addr) (cl : List (Str × Addr)) (fp : List Addr), PG (X.blk s H scope (compEnvC scope cl C X.env) fp) tg1 (tG X.K vs1 g1))
    (he : ∀ (s : Shared) (H : Hp) (C : Addr) (cl : List (Str × Addr)) (fp : List Addr), PE (X.blk s H scope (compEnvC scope cl C X.env) fp) elt (tM X.K me)) (hs : ∀ x, foldedSetIterable iter X.env x = pure x := by intro _; rfl) (hs1 : ∀ env x, foldedSetIterable iter1 env x = pure x := by intro _ _; rfl) :
    PE X (.ListComp elt [⟨tg, iter, [], 0⟩, ⟨tg1, iter1, [], 0⟩] scope pos) (tM X.K (mLc2 mi g mi1 g1 me (own.map (·.2)) vs1)) :=
  PE.imp (pe_lc2 hc.calm hc.nd hi ok hv hg (fun _ _ _ _ _ => dts_nil) hi1 hg1 (fun _ _ _ _ _ => dts_nil) he hs hs1) fun _ _ _ => lc2_imp hv
theorem ds_setLc2 (i : Nat) {y : Str} {py spos : Pos} {vs1 : List Nat} (hc : Cok k X) (hi : PI X tg iter (tI X.K mi)) (ok : BlkOk X.N X.env.scope scope own) (hv : ∀ i ∈ vs1, i ∈ own.map (·.2))
    (hg : ∀ (s : Shared) (H : Hp) (C : Addr) (cl : List (Str × Addr)) (fp : List Addr), PG (X.blk s H scope (compEnvC scope cl C X.env) fp) tg (tG X.K (own.map (·.2)) g))
    (hi1 : ∀ (s : Shared) (H : Hp) (C : Addr) (cl : List (Str × Addr)) (fp : List Addr), PI (X.blk s H scope (compEnvC scope cl C X.env) fp) tg1 iter1 (tI X.K mi1))
    (hg1 : ∀ (s : Shared) (H : Hp) (C : Addr) (cl : List (Str × Addr)) (fp : List Addr), PG (X.blk s H scope (compEnvC scope cl C X.env) fp) tg1 (tG X.K vs1 g1))
    (he : ∀ (s : Shared) (H : Hp) (C : Addr) (cl : List (Str × Addr)) (fp : List Addr), PE (X.blk s H scope (compEnvC scope cl C X.env) fp) elt (tM X.K me))
    (hyl : X.env.scope.names.lookup y = some .local) (hsw : swapsWith (.ListComp elt [⟨tg, iter, [], 0⟩, ⟨tg1, iter1, [], 0⟩] scope pos) (some (.Name y py)) spos.line X.env = pure true) (hy : X.N[i]? = some y := by rfl)
    (hs : ∀ x, foldedSetIterable iter X.env x = pure x := by intro _; rfl) (hs1 : ∀ env x, foldedSetIterable iter1 env x = pure x := by intro _ _; rfl) :
    PS X (.Assign [.Name y py] (.ListComp elt [⟨tg, iter, [], 0⟩, ⟨tg1, iter1, [], 0⟩] scope pos) spos) (tS X.K [i] (mSet (setS i) (mLc2 mi g mi1 g1 me (own.map (·.2)) vs1))) :=
  PS.imp (ps_setLc2 hc.calm hc.nd hy hyl hsw hi ok hv hg (fun _ _ _ _ _ => dts_nil) hi1 hg1 (fun _ _ _ _ _ => dts_nil) he hs hs1) fun _ _ _ h => set_imp (fun _ _ _ q => lc2_imp hv q) h
/-! ### {'a': x} -/
def mDict1 (s : Str) (ma : M) : M := fun Γ => (ma Γ).bind fun p => (settle p.2 p.1).bind fun q => some (.own (.dct [(.str s, q.1)]), q.2)
theorem d_dict1 {s : Str} {j1 : Nat} {p1 : Pos} (ha : PE X a (tM X.K ma)) : PE X (.Dict [some (.Constant (.str s) j1 p1)] [a] pos) (tM X.K (mDict1 s ma)) :=
  PE.imp (pe_disp (trs := [(tC (.str s), tM X.K ma)]) (pps_cons pe_str ha pps_nil) rfl rfl (by simp) (by simp)) fun σ H Q h => by
    obtain ⟨B, Hf, Γ, ps, r, Γ', ⟨f, R⟩, e, kk⟩ := h
    obtain ⟨⟨s1, Γ1⟩, e1, e⟩ := bindE e
    obtain ⟨⟨d1, Γ2⟩, e2, e⟩ := bindE e
    cases e
    intro p hp
    refine ⟨B, Hf, Γ, _, s1, Γ1, ⟨_, R.newD (kvs := []) (ds := []) hp .nil⟩, e1, fun v fp Hf1 H1 R1 => ?_⟩
    obtain ⟨Hf2, _, f2, R2⟩ := R1.settle e2
    have dv := (R2.pend _ List.mem_cons_self).2
    have R3 := R2.pop
    obtain ⟨a', ea, efp, hfD, kvs, hDa, dacc⟩ : ∃ a', V.ref p = .ref a' ∧ [p] = [a'] ∧ Hf2 a' = none ∧ ∃ xs, H1 a' = some (.dK xs) ∧ DenK X.K Hf2 xs [] := R3.pend _ List.mem_cons_self
    cases ea
    cases dacc
    refine ⟨hDa, [(.inr s, v)], rfl, by simp, ?_⟩
    refine kk (.ref p) [p] Hf2 _ ⟨f2, R3.writeP (o' := .dct [(.str s, d1)]) ⟨rfl, hfD, _, upd_same, ?_⟩⟩
    exact .cons dv .nil
end
end DL

set_option Elab.async false
set_option linter.all false
set_option maxRecDepth 100000
set_option maxHeartbeats 4000000
namespace HT
open PySem PyProof.Rows
open PySem.SeqAt
section
variable {prog : Program} {w : World} {A : Around} {E : Value → Shared → Prop} {s : Shared}
theorem dl_places (n : Nat) : Builtin.Slice.slicePlaces ((n : Int) - 1) (-1) (-1) = n := by
  unfold Builtin.Slice.slicePlaces
  have h1 : ¬ ((-1 : Int) > 0) := by omega
  simp only [h1, if_false]
  by_cases h : (n : Int) - 1 > -1
  · rw [if_pos h, show (- -1 : Int) = 1 by decide, Int.ediv_one]
    omega
  · rw [if_neg h]
    omega
theorem dl_sliceRev {sl : Addr} {vl vu vs : Value} {n : Nat} {Q : Int × Int × Nat → Shared → Prop} (hs : s.heap.IsSliceOf sl vl vu vs) (pl : IsPart vl none) (pu : IsPart vu none) (ps : IsPart vs (some (-1)))
    (h : Q (((n : Int) - 1), -1, n) s) : wpAny (model prog w) A (Builtin.Slice.sliceApplied (.ref sl) (pure (n : Int))) Q E s := by
  obtain ⟨os, hos, hcs, hds⟩ := id hs
  unfold Builtin.Slice.sliceApplied Builtin.Slice.sliceFields
  refine wpAny_bind (wpAny_bind (wpAny_field hos hds (x := vl) rfl (wpAny_bind (wpAny_field hos hds (x := vu) rfl (wpAny_bind (wpAny_field hos hds (x := vs) rfl (wpAny_pure ?_)))))))
  refine wpAny_bind (slicePart_ ps ?_)
  show wpAny _ _ (if ((-1 : Int) == 0) = true then _ else _) _ _ s
  rw [if_neg (by decide)]
  refine wpAny_bind (slicePart_ pl (wpAny_bind (slicePart_ pu (wpAny_bind (wpAny_pure ?_)))))
  show wpAny _ _ (pure ((n : Int) - 1, (-1 : Int), Builtin.Slice.slicePlaces ((n : Int) - 1) (-1) (-1))) _ _ s
  rw [dl_places]
  exact wpAny_pure h
theorem dl_pickRev (xs : Array Value) : ((List.range xs.size).filterMap fun (k : Nat) => xs[(((xs.size : Int) - 1) + (k : Int) * -1).toNat]?).toArray = xs.toList.reverse.toArray := by
  rw [← PySem.W.krv_pick]
  unfold slicePick
  rw [PySem.W.krv_bounds]
  show _ = ((sliceRange ((xs.size : Int) - 1) (-1) (-1)).filterMap (xs[·]?)).toArray
  rw [PySem.W.krv_sliceRange, List.filterMap_map]
  congr 2
  funext k
  have : (((xs.size : Int) - 1) + (k : Int) * -1).toNat = xs.size - 1 - k := by omega
  rw [this]
  rfl
theorem dl_tuple_rev {t sl : Addr} {items : Array Value} {vl vu vs : Value} {Q : Value → Shared → Prop} (ht : IsTup s.heap t items) (hs : s.heap.IsSliceOf sl vl vu vs) (pl : IsPart vl none) (pu : IsPart vu none) (ps : IsPart vs (some (-1)))
    (h : Q (.ref s.heap.objs.size) { s with heap := s.heap.push { cls := .type "tuple", data := .seq items.toList.reverse.toArray } })
    (hsz : items.size ≤ sizeLine) : wpAny (model prog w) A (getItem (.ref t) (.ref sl)) Q E s := by
  have htake : sizeOk (.seq items.toList.reverse.toArray) := by
    show items.toList.reverse.toArray.size ≤ sizeLine
    rw [List.size_toArray, List.length_reverse, Array.length_toList]
    exact hsz
  obtain ⟨os, hos, hcs, hds⟩ := id hs
  have hTs : s.TypeIs (.ref sl) "slice" := ⟨os, hos, hcs⟩
  unfold getItem
  try with_reducible refine wpAny_holding ?_
  first | refine wpAny_bind (wpAny_pure ?_) | skip
  refine wpAny_bind (wpAny_sequenceKey ht.typeIs (by decide) ?_)
  refine wpAny_bind (wpAny_callSpecial?_slot (name := Str.ofString "__getitem__") ht.typeIs PyProof.Rows.slot_tuple_getitem
    (wpAny_call_entry PyProof.Rows.slot_tuple_getitem ht.typeIs entry_tuple_getitem ?_ (args_tuple_getitem _ _)))
  show wpAny _ _ (Builtin.Tuple.tupleItemsOf (.ref t) >>= _) _ _ s
  refine wpAny_bind (tupleItemsOf_ ht ?_)
  refine wpAny_bind (wpAny_typeOf hTs ?_)
  rw [if_pos (by decide)]
  refine wpAny_bind (dl_sliceRev hs pl pu ps ?_)
  show wpAny _ _ (if (((items.size : Int) - 1) == 0 && (-1 : Int) == 1 && items.size == items.size) = true then _ else _) _ _ s
  rw [if_neg (by simp), dl_pickRev]
  first
    | exact wpAny_bind (m := Builtin.Tuple.tupleExact _) (wpAny_newObj_type (wpAny_pure ⟨_, rfl, wpAny_pure h⟩) htake)
    | exact wpAny_bind (m := Builtin.Tuple.tupleExact _) (wpAny_newObj_type (wpAny_bind (wpAny_pure (wpAny_pure ⟨_, rfl, wpAny_pure h⟩))) htake)
    | exact wpAny_bind (wpAny_bind (m := Builtin.Tuple.tupleExact _) (wpAny_newObj_type (wpAny_pure (wpAny_pure ⟨_, rfl, wpAny_pure h⟩)) htake))
    | exact wpAny_bind (wpAny_bind (m := Builtin.Tuple.tupleExact _) (wpAny_newObj_type (wpAny_pure ⟨_, rfl, wpAny_pure h⟩) htake))
end
end HT
namespace L2
open PySem PySem.Spec PyProof.Rows
def tRevT (K : PySem.W.Frag) (te : TE) : TE := fun σ H Q => te σ H fun x H1 => ∃ a xs, x = .ref a ∧ SqT K H1 a xs ∧ ∀ p, H1 p = none → Q (.ref p) (upd H1 p (.tup xs.reverse))
theorem pe_revT {X : Cx} {e : Expr} {te : TE} {k : Nat} {p1 p2 p3 pos : Pos} (he : PE X e te) : PE X (.Subscript e (.Slice none none (some (.UnaryOp .USub (.Constant (.int 1) k p1) p2)) p3) pos) (tRevT X.K te) := by
  refine ⟨fun pins s σ H Q I h => ?_⟩
  refine Subscript_ (thn (he.run pins s σ H _ I h) fun v s1 ⟨x, H1, I1, r1, q1⟩ => ?_)
  obtain ⟨a, xs, ex, hx, q⟩ := q1
  subst ex
  cases r1
  have hst : PO X (some (.UnaryOp .USub (.Constant (.int 1) k p1) p2)) (tPart (tUn (rU fun i => .int (-i)) (tC (.int 1)))) := po_some (pe_un un_neg pe_int)
  refine wpAny_Slice (thn (po_none.run pins s1 σ H1 (fun o H2 => o = none ∧ H2 = H1) I1 ⟨rfl, rfl⟩) fun vl s2 ⟨l, H2, I2, pl, el, e2⟩ => ?_)
  subst el e2
  refine thn (po_none.run pins s2 σ H2 (fun o H3 => o = none ∧ H3 = H2) I2 ⟨rfl, rfl⟩) fun vu s3 ⟨u, H3, I3, pu, eu, e3⟩ => ?_
  subst eu e3
  refine thn (hst.run pins s3 σ H3 (fun o H4 => o = some (-1) ∧ H4 = H3) I3 ⟨1, rfl, -1, rfl, rfl, rfl⟩) fun vs s4 ⟨o, H4, I4, ps, eo, e4⟩ => ?_
  subst eo e4
  have I5 : Inv X pins σ H4 { s4 with heap := s4.heap.push { cls := .type "slice", data := .fields #[vl, vu, vs] } } := I4.kept (t' := s4.toks) fun b ob q => Heap.get?_push_of_some _ q
  obtain ⟨its, r, ht, hz⟩ := I5.tuple hx
  have hlen := r.length
  show wpAny (model X.prog X.w) X.A (subscriptTail e (.Slice none none (some (.UnaryOp .USub (.Constant (.int 1) k p1) p2)) p3) (.ref a) (.ref s4.heap.objs.size)) (EP X pins σ Q) X.xe { s4 with heap := s4.heap.push { cls := .type "slice", data := .fields #[vl, vu, vs] } }
  refine tail_any (ops := [.ref a, .ref s4.heap.objs.size]) ht.typeIs (PyProof.Rows.slot_tuple_getitem.lookup) ?_ (by with_unfolding_all rfl)
  refine HT.dl_tuple_rev ht (Heap.IsSliceOf.new _ vl vu vs) pl pu ps ?_ (by rw [List.size_toArray]; omega)
  refine ⟨.ref _, _, I5.laid (t' := s4.toks) (o := .tup xs.reverse) (fun b ob q => Heap.get?_push_of_some _ q) (Nat.le_refl _) ?_, rfl, q _ (I5.hok.fresh (Nat.le_refl _))⟩
  exact ⟨by rw [List.length_reverse]; omega, its.reverse, r.reverse, ⟨_, Heap.get?_push_size _ rfl, rfl, _, rfl⟩⟩
end L2
namespace DL
open PySem L2
variable [TabsC]
section
variable {X : Cx} {a : Expr} {ma : M}
def gRev : Slot → Env → Option (Slot × Env) := fun s Γ => (viewD Γ s).bind fun d => match d with
  | .tuple l => some (.d (.tuple l.reverse), Γ)
  | _ => none
theorem d_rev {k : Nat} {p1 p2 p3 pos : Pos} (ha : PE X a (tM X.K ma)) : PE X (.Subscript a (.Slice none none (some (.UnaryOp .USub (.Constant (.int 1) k p1) p2)) p3) pos) (tM X.K (mUn gRev ma)) :=
  PE.imp (pe_revT ha) fun σ H Q h => by
    obtain ⟨B, Hf, Γ, ps, r, Γ', R, e, k⟩ := h
    obtain ⟨⟨s1, Γ1⟩, e1, e⟩ := bindE e
    obtain ⟨d, e2, e⟩ := bindE e
    refine ⟨B, Hf, Γ, ps, s1, Γ1, R, e1, fun x fp1 Hf1 H1 ⟨f, R1⟩ => ?_⟩
    cases d <;> simp only [reduceCtorEq] at e
    simp only [Option.some.injEq, Prod.mk.injEq] at e
    obtain ⟨rfl, rfl⟩ := e
    obtain ⟨a1, xs, h1, q1, dx⟩ := R1.itemsP (p := ⟨x, s1, fp1⟩) (by simp) e2 rfl
    exact ⟨a1, xs, h1, by simpa using q1, fun p hp => k _ _ _ _ ⟨f, R1.pop.newT hp dx.reverse⟩⟩
end
end DL

set_option Elab.async false
set_option linter.all false
set_option maxRecDepth 100000
set_option maxHeartbeats 4000000
namespace L2
open PySem PySem.Spec PyProof.Rows
/-! ### what a set of ints is -/
def keyS (e : Int × Value) : Str := strOf e.2
def GoodS (w : World) (e : Int × Value) : Prop := ∃ k tk, e.2 = Value.str k tk ∧ e.1 = hashStr w k

/-- the set of ints at a: S its members, n their number; its table rises and can be walked -/
def SetRS (w : World) (h : Heap) (a : Addr) (S : Str → Bool) (n : Nat) : Prop :=
  ∃ o es ep t, h.get? a = some o ∧ o.ExactSet ∧ o.data = .set es ep t ∧ (∀ e ∈ es.toList, GoodS w e) ∧ (es.toList.map keyS).Nodup ∧ (∀ k, S k = true ↔ k ∈ es.toList.map keyS) ∧
    es.size < scanBound ∧ t.fits es.size = true ∧ es.size = n ∧ Ris t.place.toList ∧ (w.params.followText "set-order" = true ∨ t.led = true)

section
variable {P : Program} {w : World} {h h' : Heap} {a : Addr} {S : Str → Bool} {n : Nat}

theorem SetRS.at (R : SetRS w h a S n) (k : ∀ o, h.get? a = some o → h'.get? a = some o) : SetRS w h' a S n := by
  obtain ⟨o, es, ep, t, ho, r⟩ := R
  exact ⟨o, es, ep, t, k o ho, r⟩
theorem SetRS.lt (R : SetRS w h a S n) : a < h.objs.size := by
  obtain ⟨o, es, ep, t, ho, r⟩ := R
  exact Heap.lt_size ho
theorem SetRS.congr {S' : Str → Bool} (R : SetRS w h a S n) (e : ∀ k, S' k = S k) : SetRS w h a S' n := by
  have q : S' = S := funext e
  rw [q]; exact R
theorem goodS_elems {l : List (Int × Value)} (g : ∀ e ∈ l, GoodS w e) : ElemsOf (PySem.strKind P w) l := fun e he => by
  obtain ⟨k, tk, h1, h2⟩ := g e he
  exact ⟨⟨k, by rw [h1]; exact PySem.strKind_is P w k tk, h2⟩, by rw [h1] <;> rfl⟩
theorem goodS_is {e : Int × Value} (g : GoodS w e) (k : Str) : (PySem.strKind P w).is k e.2 = true ↔ keyS e = k := by
  obtain ⟨k0, tk, h1, _⟩ := g
  unfold keyS
  rw [h1]
  show ((k0 == k) = true) ↔ k0 = k
  exact beq_iff_eq
theorem goodS_mem {l : List (Int × Value)} (g : ∀ e ∈ l, GoodS w e) (k : Str) : k ∈ l.map keyS ↔ ∃ e ∈ l, (PySem.strKind P w).is k e.2 = true := by
  rw [List.mem_map]
  constructor
  · rintro ⟨e, he, q⟩
    exact ⟨e, he, (goodS_is (g e he) k).2 q⟩
  · rintro ⟨e, he, q⟩
    exact ⟨e, he, (goodS_is (g e he) k).1 q⟩
theorem SetRS.setOf (R : SetRS w h a S n) : h.SetOf (PySem.strKind P w) a S n := by
  obtain ⟨o, es, ep, t, ho, hx, hd, g, nd, hm, hb, hf, hn, _⟩ := R
  exact ⟨o, es, ep, t, ho, hx, hd, goodS_elems g, fun k => (hm k).trans (goodS_mem g k), hb, hf, hn⟩
end

section
variable {P : Program} {w : World} {A : Around} {E : Value → Shared → Prop} {s : Shared} {a : Addr} {S : Str → Bool} {n : Nat}

/-! ### add -/
theorem storeS_at {h : Heap} {a : Addr} {o : Obj} {es es' : Array (Int × Value)} {ep : Nat} {t t' : SetTable} (ho : h.get? a = some o) (hd : o.data = .set es ep t) :
    (h.update a (Obj.putSet es' t')).get? a = some { o with data := .set es' (ep + 1) t' } := by
  have q := Heap.get?_update_self (Obj.putSet es' t') ho (by rw [putSet_of es' t' hd]; rfl)
  rw [putSet_of es' t' hd] at q
  exact q

theorem setS_add_tail {g : Bool → Sem Unit} (hg : ∀ (b : Bool) (s₁ : Shared) (Q' : Unit → Shared → Prop), Q' () s₁ → wpAny (model P w) A (g b) Q' E s₁)
    {o : Obj} {es : Array (Int × Value)} {ep : Nat} {t : SetTable} (ho : s.heap.get? a = some o) (hex : o.ExactSet) (hd : o.data = .set es ep t)
    {es1 : Array (Int × Value)} {t2 : SetTable} {S' : Str → Bool} (g1 : ∀ e ∈ es1.toList, GoodS w e) (nd1 : (es1.toList.map keyS).Nodup) (m1 : ∀ k, S' k = true ↔ k ∈ es1.toList.map keyS)
    (hb1 : es1.size < scanBound) (hf2 : t2.fits es1.size = true) (hr : Ris t2.place.toList) (hl : w.params.followText "set-order" = true ∨ t2.led = true) {wasDummy : Bool} {R : Option Bool → Shared → Prop}
    (hR : ∀ h', Heap.SameBut a s.heap h' → SetRS w h' a S' es1.size → R (some true) { s with heap := h' }) :
    wpAny (model P w) A (do
        storeSet a es1 t2
        if (!wasDummy && t2.tooFull) = true then do
            g (relayAll t2 es1 (SetTable.grown es1.size)).2.2
            storeSet a (relayAll t2 es1 (SetTable.grown es1.size)).1 (relayAll t2 es1 (SetTable.grown es1.size)).2.1
            pure (some true)
          else pure (some true)) R E s := by
  refine wpAny_bind (wpAny_storeSet_of ho hd ?_ (fits_of_scanBound hb1))
  have ho1 := storeS_at (es' := es1) (t' := t2) ho hd
  have sb1 := Heap.SameBut.update s.heap a (Obj.putSet es1 t2)
  split
  · have pm := relayAll_perm t2 es1 (SetTable.grown es1.size)
    have hf3 := relayAll_fits t2 es1 (SetTable.grown es1.size)
    have hr3 := relayAll_ris t2 es1 (SetTable.grown es1.size)
    have hl3 := relayAll_led t2 es1 (SetTable.grown es1.size)
    generalize relayAll t2 es1 (SetTable.grown es1.size) = Z at pm hf3 hr3 hl3 ⊢
    obtain ⟨es2, t3, gave⟩ := Z
    dsimp only at pm hf3 hr3 hl3 ⊢
    have hsz : es2.size = es1.size := by rw [← Array.length_toList, pm.length_eq, Array.length_toList]
    have hb2 : es2.size < scanBound := by rw [hsz]; exact hb1
    refine wpAny_bind (hg _ _ _ ?_)
    refine wpAny_bind (wpAny_storeSet_of ho1 rfl ?_ (fits_of_scanBound hb2))
    have ho2 := storeS_at (es' := es2) (t' := t3) ho1 rfl
    refine wpAny_pure (hR _ (sb1.trans (Heap.SameBut.update _ a _)) ?_)
    exact ⟨_, es2, _, t3, ho2, hex, rfl, fun e he => g1 e (pm.mem_iff.mp he), (pm.map keyS).nodup_iff.mpr nd1, fun k => (m1 k).trans (pm.map keyS).mem_iff.symm, hb2, hf3, hsz, hr3,
      hl.imp id fun z => by rw [hl3]; exact z⟩
  · exact wpAny_pure (hR _ sb1 ⟨_, es1, _, t2, ho1, hex, rfl, g1, nd1, m1, hb1, hf2, rfl, hr, hl⟩)

theorem setS_add_hashed {k : Str} {tk : Tok} {Q : Bool → Shared → Prop} (R : SetRS w s.heap a S n) (room : n + 1 < scanBound)
    (hQ : ∀ h', Heap.SameBut a s.heap h' → SetRS w h' a (fun j => S j || decide (j = k)) (if S k = true then n else n + 1) → Q (!S k) { s with heap := h' }) :
    wpAny (model P w) A (setAddHashed a (.str k tk) ((PySem.strKind P w).hash k)) Q E s := by
  obtain ⟨o, es, ep, t, ho, hex, hd, g, nd, hm, hb, hf, hn, hr, hl⟩ := R
  have hkey : (PySem.strKind P w).is k (.str k tk) = true := PySem.strKind_is P w k tk
  have hsc : (Value.str k tk).scannable = true := rfl
  have hel : ElemsOf (PySem.strKind P w) es.toList := goodS_elems g
  unfold setAddHashed setAddHashedIn
  refine wpAny_holding (wpAny_bind (wpAny_setState_of ho hd hf ?_))
  dsimp only
  rw [byScan_of hsc hb hel]
  simp only [↓reduceIte]
  unfold setAddByScan
  refine wpAny_bind ?_
  refine wpAny_bind (wpAny_rule ?_)
  refine wpAny_bind (wpAny_setScan_of hkey ho hd hf hel ?_)
  cases hfi : List.findIdx? (fun e => (PySem.strKind P w).is k e.2) es.toList with
  | some j =>
    dsimp only
    obtain ⟨hj, pj, _⟩ := List.findIdx?_eq_some_iff_getElem.mp hfi
    have hSk : S k = true := (hm k).2 ((goodS_mem (P := P) (w := w) g k).2 ⟨es.toList[j], List.getElem_mem hj, pj⟩)
    refine wpAny_pure (wpAny_pure ?_)
    have q := hQ s.heap (Heap.SameBut.refl a s.heap) ⟨o, es, ep, t, ho, hex, hd, g, nd, fun i => by
      rw [Bool.or_eq_true, decide_eq_true_eq, ← hm i]
      exact ⟨fun z => z.elim id (fun e => e ▸ hSk), .inl⟩, hb, hf, by rw [if_pos hSk]; exact hn, hr, hl⟩
    rw [hSk] at q
    exact q
  | none =>
    dsimp only
    have hnk : k ∉ es.toList.map keyS := fun z => by
      obtain ⟨e, he, q⟩ := (goodS_mem (P := P) (w := w) g k).1 z
      have c := List.findIdx?_eq_none_iff.mp hfi e he
      rw [q] at c
      cases c
    have hSk : S k = false := by
      cases q : S k with
      | false => rfl
      | true => exact absurd ((hm k).1 q) hnk
    have hgw : ∀ (b : Bool) {s₁ : Shared} {Q' : Unit → Shared → Prop}, Q' () s₁ → wpAny (model P w) A (match b with | true => rule "set.scan.the-table-gave-way" | false => pure ()) Q' E s₁ :=
      fun b s₁ Q' q => by cases b <;> first | exact wpAny_pure q | exact wpAny_rule q
    have pm := layNew_perm t es ((PySem.strKind P w).hash k) (.str k tk)
    have hf1 := layNew_fits t es ((PySem.strKind P w).hash k) (.str k tk)
    have hr1 := layNew_ris t es ((PySem.strKind P w).hash k) (.str k tk) hr
    have hl1 := layNew_led t es ((PySem.strKind P w).hash k) (.str k tk)
    generalize layNew t es ((PySem.strKind P w).hash k) (.str k tk) = Z at pm hf1 hr1 hl1 ⊢
    obtain ⟨es1, t1, wasDummy, gave⟩ := Z
    dsimp only at pm hf1 hr1 hl1 ⊢
    rw [Array.toList_push] at pm
    have pc : es1.toList.Perm (((PySem.strKind P w).hash k, Value.str k tk) :: es.toList) := pm.trans (List.perm_append_singleton _ _)
    have pk : (es1.toList.map keyS).Perm (k :: es.toList.map keyS) := pc.map keyS
    have g1 : ∀ e ∈ es1.toList, GoodS w e := fun e he => by
      rcases List.mem_cons.mp (pc.mem_iff.mp he) with z | z
      · rw [z]; exact ⟨k, tk, rfl, rfl⟩
      · exact g e z
    have nd1 : (es1.toList.map keyS).Nodup := pk.nodup_iff.mpr (List.nodup_cons.mpr ⟨hnk, nd⟩)
    have m1 : ∀ i, (S i || decide (i = k)) = true ↔ i ∈ es1.toList.map keyS := fun i => by
      rw [Bool.or_eq_true, decide_eq_true_eq, hm i, pk.mem_iff, List.mem_cons]
      exact Or.comm
    have hsz : es1.size = n + 1 := by rw [← Array.length_toList, pc.length_eq, List.length_cons, Array.length_toList, hn]
    have hb1 : es1.size < scanBound := by rw [hsz]; exact room
    have hled : w.params.followText "set-order" = true ∨ t1.led = true := hl.imp id fun z => by rw [hl1]; exact z
    have fin : ∀ h', Heap.SameBut a s.heap h' → SetRS w h' a (fun j => S j || decide (j = k)) es1.size → Q true { s with heap := h' } := fun h' sb r => by
      have q := hQ h' sb
      rw [hSk] at q
      rw [hsz] at r
      exact q r
    refine wpAny_bind (hgw _ ?_)
    split
    · refine wpAny_bind ?_
      rw [hashByValue_scannable 8 hsc]
      refine wpAny_pure ?_
      refine setS_add_tail ?_ ho hex hd g1 nd1 m1 hb1 ?_ ?_ ?_ ?_
      · intro b s₁ Q' q; cases b <;> first | exact wpAny_pure q | exact wpAny_rule q
      · first | (split <;> first | exact hf1 | exact SetTable.fits_plain_off hf1) | exact hf1
      · first | (split <;> exact hr1) | exact hr1
      · first | (split <;> exact hled) | exact hled
      · intro h' sb r; dsimp only; exact wpAny_pure (fin h' sb r)
    · refine wpAny_bind (wpAny_pure ?_)
      simp only [↓reduceIte]
      refine setS_add_tail ?_ ho hex hd g1 nd1 m1 hb1 hf1 hr1 hled ?_
      · intro b s₁ Q' q; cases b <;> first | exact wpAny_pure q | exact wpAny_rule q
      · intro h' sb r; dsimp only; exact wpAny_pure (fin h' sb r)

end
theorem setS_new_at {w : World} {h : Heap} {a : Addr} {ns : List Str} (ho : h.get? a = some { cls := .type "set", dict := none, data := .set #[] 0 (.fresh 0 0 (!w.params.followText "set-order")) }) : SetRS w h a (fun j => decide (j ∈ ns.take 0)) 0 :=
  ⟨_, #[], 0, _, ho, ⟨rfl, rfl, rfl⟩, rfl, (fun e he => by simp at he), (by simp), (fun k => by simp), (by decide), (by rfl), rfl, List.Pairwise.nil, by
    show _ ∨ (!w.params.followText "set-order") = true
    cases w.params.followText "set-order"
    · exact .inr rfl
    · exact .inl rfl⟩
section
variable {P : Program} {w : World} {A : Around} {E : Value → Shared → Prop} {s : Shared}
theorem set_update_strs {I : Addr} {fp wr : List Addr} {G : Array GenState → Array GenState → Prop} {n : Nat} {Pv : Nat → Value → Prop} {St : Nat → Shared → Prop} {R : Result → Shared → Prop}
    (W : WalksS P w A.in1 I fp wr G n Pv St) (S : Addr) (hSf : S ∉ fp) (ns : List Str) (hn : n = ns.length) (hb : ns.length + 1 < scanBound) (hval : ∀ i v, Pv i v → ∃ k t, ns[i]? = some k ∧ v = .str k t) :
    ∀ (k i : Nat) (s : Shared), n - i = k → i ≤ n → St i s → (∃ c, c ≤ i ∧ SetRS w s.heap S (fun j => decide (j ∈ ns.take i)) c) →
      (∀ s' c, Moved (S :: wr) G s s' → c ≤ n → SetRS w s'.heap S (fun j => decide (j ∈ ns)) c → R (.ok (.ret .none)) s') →
      codeAny (model P w) A (.builtin "set.update.loop" ⟨[.ref S, .ref I], []⟩) R s := by
  have hSw : S ∉ wr := fun h => hSf (W.sub _ h)
  have hsub : ∀ b ∈ wr, b ∈ S :: wr := fun b hb => List.mem_cons_of_mem _ hb
  intro k
  induction k with
  | zero =>
    intro i s hk' hi hst ⟨c, hc, hS⟩ hR
    have hin : i = n := by omega
    subst hin
    refine codeAny_builtin F.entry_set_update_loop ?_
    rw [Around.under_plainId F.plain_set_update_loop _]
    show wpAny _ A.in1 (pyNext (.ref I) >>= _) _ _ s
    refine wpAny_bind (W.done s _ _ hst fun s' hm => ?_)
    show wpAny _ A.in1 (ret Value.none) _ _ s'
    have e : ns.take i = ns := List.take_of_length_le (by omega)
    rw [e] at hS
    exact wpAny_pure (hR s' c (hm.mono hsub) hc (hS.at fun o e => hm.heap S o hSw e))
  | succ k ih =>
    intro i s hk' hi hst ⟨c, hc, hS⟩ hR
    have hlt : i < n := by omega
    refine codeAny_builtin F.entry_set_update_loop ?_
    rw [Around.under_plainId F.plain_set_update_loop _]
    show wpAny _ A.in1 (pyNext (.ref I) >>= _) _ _ s
    refine wpAny_bind (W.item i s _ _ hlt hst fun v s' hP hst' hm => ?_)
    obtain ⟨z, t, hz, rfl⟩ := hval i v hP
    have hS' : SetRS w s'.heap S (fun j => decide (j ∈ ns.take i)) c := hS.at fun o e => hm.heap S o hSw e
    show wpAny _ A.in1 (holding [Value.str z t] (setAdd S (.str z t)) >>= _) _ _ s'
    refine wpAny_bind (wpAny_holding ?_)
    unfold setAdd
    refine wpAny_holding ?_
    refine wpAny_bind ((PySem.strKind P w).pyHash (k := z) (PySem.strKind_is _ _ _ _) ?_)
    refine setS_add_hashed (s := { s' with toks := s'.toks + 1 }) hS' (by omega) fun h' hsb hS2 => ?_
    have hS3 : SetRS w h' S (fun j => decide (j ∈ ns.take (i + 1))) (if decide (z ∈ ns.take i) = true then c else c + 1) := hS2.congr fun j => by
      rw [List.take_add_one, hz]
      simp [List.mem_append]
    have hc3 : (if decide (z ∈ ns.take i) = true then c else c + 1) ≤ i + 1 := by
      split <;> omega
    refine wpAny_pure ⟨plainId_quiet F.plain_set_update_loop _, ih (i + 1) _ (by omega) hlt (W.frame _ s' _ _ hst' (Nat.le_succ _) fun b hb o e => ?_) ⟨_, hc3, hS3⟩ fun s'' c2 hm'' hc'' hS'' => ?_⟩
    · rw [hsb.2 b (fun h : b = S => hSf (by rw [← h]; exact hb))]; exact e
    · refine hR s'' c2 (Moved.trans W.gtrans ((hm.mono hsub).then_heap (Nat.le_succ _) fun b o hb e => ?_) hm'') hc'' hS''
      rw [hsb.2 b (fun h : b = S => hb (by rw [h]; exact List.mem_cons_self))]; exact e

theorem code_set_ledS (a : Value) {Q₁ : Value → Shared → Prop}
    (h : Q₁ (.ref s.heap.objs.size) { s with heap := s.heap.push { cls := .type "set", dict := none, data := .set #[] 0 (.fresh 0 0 (!w.params.followText "set-order")) } }) :
    codeAny (model P w) A (.call (.builtin "set.__new__") ⟨[.type "set", a], []⟩) (wants Q₁ E) s := by
  refine codeAny_of_tree ?_
  show wpAny _ A.in1 (do checkBuiltinCall "set.__new__" ⟨[.type "set", a], []⟩; again (.builtin "set.__new__" ⟨[.type "set", a], []⟩)) _ _ s
  refine wpAny_bind (wpAny_of_eq (F.newCall_set_1 a) (wpAny_pure ⟨plainId_quiet F.plain_set_new _, codeAny_builtin F.entry_set_new ?_⟩))
  rw [Around.under_plainId F.plain_set_new _]
  unfold Builtin.«set.__new__» Builtin.Frozenset.newClass
  have hsub := sub_set_self
  obtain ⟨hp, g, d, tk, os⟩ := s
  dsimp only
  wp_walk
  refine wpAny_askSetting (wpAny_pure ?_)
  dsimp only
  simp only [newObj]
  refine wpAny_bind (wpAny_alloc (wpAny_pure ?_))
  exact wpAny_pure h

set_option maxRecDepth 100000 in
set_option maxHeartbeats 3200000 in
theorem call_set_strsL {l : Addr} {items : Array Value} (ns : List Str) {Q : Value → Shared → Prop} (hh : A.handled = none) (hl : s.heap.IsList l items) (hit : StrsAre items.toList ns) (hb : ns.length + 1 < scanBound)
    (h : ∀ (h' : Heap) (tk c : Nat), SetRS w h' s.heap.objs.size (fun j => decide (j ∈ ns)) c → c ≤ ns.length → (∀ b o, s.heap.get? b = some o → h'.get? b = some o) → Q (.ref s.heap.objs.size) { s with heap := h', toks := tk }) :
    wpAny (model P w) A (call (.type "set") [.ref l]) Q E s := by
  have hisz : items.size = ns.length := by
    have q := StrsAre.length hit
    rw [Array.length_toList] at q
    exact q
  obtain ⟨c, tl, hmro⟩ := F.called_set.mro
  have hmade := F.called_set.made
  have hsub := F.called_set.sub
  refine wpAny_call (codeAny_of_tree ?_)
  show wpAny _ _ (callAny (.type "set") _) _ _ _
  refine wpAny_pure ⟨Code.quiet_builtin _ (by decide +kernel), codeAny_builtin F.entry_type_call ?_⟩
  rw [Around.under_plain (weight_type_call_type "set" [.ref l] []) rfl]
  have h1 := F.called_set.notType
  have h2 := F.called_set.canCreate
  have hct := F.typeCall_set_1 (.ref l)
  repeat (any_goals (first | assumption | wp_step))

  refine codeAny_mono (code_set_ledS (.ref l) (E := E) (Q₁ := fun obj s₁ => obj = .ref s.heap.objs.size ∧ s₁ = { s with heap := s.heap.push { cls := .type "set", dict := none, data := .set #[] 0 (.fresh 0 0 (!w.params.followText "set-order")) } }) ⟨rfl, rfl⟩) fun r s₁ hr => ?_
  cases r with
  | error e => exact hr
  | ok fl =>
    cases fl with
    | ret obj =>
      obtain ⟨rfl, rfl⟩ := hr
      have hS : (s.heap.push { cls := .type "set", dict := none, data := .set #[] 0 (.fresh 0 0 (!w.params.followText "set-order")) }).get? s.heap.objs.size = some { cls := .type "set", dict := none, data := .set #[] 0 (.fresh 0 0 (!w.params.followText "set-order")) } := Heap.get?_push_size _ rfl
      have hT : Shared.TypeIs { s with heap := s.heap.push { cls := .type "set", dict := none, data := .set #[] 0 (.fresh 0 0 (!w.params.followText "set-order")) } } (.ref s.heap.objs.size) "set" := ⟨_, hS, rfl⟩
      have hli := F.called_set.init.lookup
      have hbi := F.called_set.init.bind (.ref s.heap.objs.size)
      repeat (any_goals (first | assumption | wp_step))

      refine codeAny_mono (codeAny_call_builtin (R := wants (fun r s₂ => r = .none ∧ ∃ h' tk c, s₂ = { s with heap := h', toks := tk } ∧ SetRS w h' s.heap.objs.size (fun j => decide (j ∈ ns)) c ∧ c ≤ ns.length ∧
          (∀ b o, s.heap.get? b = some o → h'.get? b = some o)) E) F.called_set.init.plain F.entry_set_init (check_set_init_1 hT ?_)) fun r₂ s₂ hr₂ => ?_
      · obtain ⟨ol, hol, hcl, nl, hdl⟩ := hl
        obtain ⟨ocls, odict, odata, oslots⟩ := ol
        simp only at hcl hdl
        subst hcl; subst hdl
        have hol' : (s.heap.push { cls := .type "set", dict := none, data := .set #[] 0 (.fresh 0 0 (!w.params.followText "set-order")) }).get? l = some { cls := .type "list", dict := odict, data := .seq items nl, slots := oslots } := Heap.get?_push_of_some _ hol
        have hsls := F.sub_list_set
        have hslf := F.sub_list_frozenset
        have hne : (Value.type "list" == Value.type "dict") = false := by decide
        have hl1 : (s.heap.push { cls := .type "set", dict := none, data := .set #[] 0 (.fresh 0 0 (!w.params.followText "set-order")) }).IsList l items := ⟨_, hol', rfl, nl, rfl⟩
        unfold Builtin.«set.__init__» noKeywords Builtin.Frozenset.updateFrom
        generalize hPI : pyIter = PI
        wp_walk
        subst hPI

        refine wpAny_pyIter_list hl1 ?_
        refine wpAny_bind (wpAny_runValue ?_)
        have hlS : l < s.heap.objs.size := Heap.lt_size hol
        have hh3 : A.in1.in1.in1.handled = none := by simp [hh]
        have hz1 : (s.heap.push { cls := .type "set", dict := none, data := .set #[] 0 (.fresh 0 0 (!w.params.followText "set-order")) }).objs.size = s.heap.objs.size + 1 := Heap.size_push ..
        have hneI : l ≠ (s.heap.push { cls := .type "set", dict := none, data := .set #[] 0 (.fresh 0 0 (!w.params.followText "set-order")) }).objs.size := by
          rw [Heap.size_push]; exact Nat.ne_of_lt (Nat.lt_succ_of_lt hlS)
        have hSf : s.heap.objs.size ∉ [(s.heap.push { cls := .type "set", dict := none, data := .set #[] 0 (.fresh 0 0 (!w.params.followText "set-order")) }).objs.size, l] := by
          rw [Heap.size_push]; simp only [List.mem_cons, List.mem_singleton, List.not_mem_nil, or_false, not_or]
          exact ⟨Nat.ne_of_lt (Nat.lt_succ_self _), Nat.ne_of_gt hlS⟩
        have hval : ∀ (i : Nat) (v : Value), items[i]? = some v → ∃ k t, ns[i]? = some k ∧ v = .str k t := fun i v hv => by
          have hi : i < ns.length := by rw [← hisz]; exact (Array.getElem?_eq_some_iff.mp hv).1
          obtain ⟨t, e⟩ := SS.strs_at hit i v (by rw [Array.getElem?_toList]; exact hv)
          refine ⟨ns[i], t, List.getElem?_eq_getElem hi, ?_⟩
          rw [e, List.getD_eq_getElem?_getD, List.getElem?_eq_getElem hi] <;> rfl
        refine set_update_strs ((Walks.list hh3 _ l hneI items).toS) s.heap.objs.size
          hSf ns hisz hb hval (items.size - 0) 0 _ (by omega) (Nat.zero_le _)
          ⟨⟨_, Heap.get?_push_size _ rfl, rfl, rfl⟩, (hl1.push _)⟩ ?hS0 ?hR
        case hS0 =>
          have hget : ((s.heap.push { cls := .type "set", dict := none, data := .set #[] 0 (.fresh 0 0 (!w.params.followText "set-order")) }).push { cls := .type "list_iterator", data := .fields #[.ref l, .int 0 0] }).get? s.heap.objs.size
              = some { cls := .type "set", dict := none, data := .set #[] 0 (.fresh 0 0 (!w.params.followText "set-order")) } := Heap.get?_push_of_some _ hS
          exact ⟨0, Nat.le_refl 0, setS_new_at hget⟩
        case hR =>
          intro s' c' hm hc' hS'
          obtain ⟨h', g2, d', tk', os'⟩ := s'
          have eg : g2 = s.gens := hm.gens
          have ed : d' = s.drawn := hm.drawn
          have eo : os' = s.os := hm.os
          subst eg; subst ed; subst eo
          show wpAny _ _ _ _ _ _
          refine wpAny_pure ?_
          show wpAny _ _ (ret Value.none) _ _ _
          rw [hisz] at hc'
          refine wpAny_pure ⟨rfl, h', tk', c', rfl, hS', hc', fun b o e => ?_⟩
          have hb0 : b < s.heap.objs.size := Heap.lt_size e
          have hb1 : b ≠ s.heap.objs.size := Nat.ne_of_lt hb0
          have hb2 : b ≠ (s.heap.push { cls := .type "set", dict := none, data := .set #[] 0 (.fresh 0 0 (!w.params.followText "set-order")) }).objs.size := by
            rw [Heap.size_push]; exact Nat.ne_of_lt (Nat.lt_succ_of_lt hb0)
          exact hm.heap b o (by simp only [List.mem_cons, List.mem_singleton, List.not_mem_nil, or_false, not_or]; exact ⟨hb1, hb2⟩) (Heap.get?_push_of_some _ (Heap.get?_push_of_some _ e))

      · cases r₂ with
        | error e => exact hr₂
        | ok fl₂ =>
          cases fl₂ with
          | ret r =>
            obtain ⟨rfl, h', tk, c', rfl, hS', hc', hk'⟩ := hr₂
            repeat (any_goals (first | assumption | wp_step))
            exact h _ _ _ hS' hc' hk'
          | _ => exact hr₂.elim
    | _ => exact hr.elim

end

section
variable {P : Program} {w : World} {A : Around} {E : Value → Shared → Prop} {s : Shared} {a : Addr} {es : Array (Int × Value)} {ep : Nat} {t : SetTable}
theorem sorted_setS {S : Str → Bool} {n : Nat} {Q : Value → Shared → Prop} (R : SetRS w s.heap a S n) (hh : A.handled = none) (h64 : n < 64)
    (hQ : ∀ s' p (out : Array Value) (c : Nat) (ns : List Str), (∀ b o, s.heap.get? b = some o → s'.heap.get? b = some o) → s'.gens = s.gens → s'.os = s.os → s.heap.objs.size ≤ p →
      s'.heap.get? p = some (seqObj "list" out c) → StrsAre out.toList ns → sortedS ns = true → ns.Nodup → (∀ k, k ∈ ns ↔ S k = true) → ns.length = n → Q (.ref p) s') :
    wpAny (model P w) A (call (.builtin "sorted") [.ref a]) Q E s := by
  obtain ⟨o, es, ep, t, ho, hex, hd, g, nd, hm, hb, hf, hn, hr, hl⟩ := R
  refine Calls.call_function_entry kind_sorted plain_sorted entry_sorted (args_sorted1 _) ?_
  unfold Builtin.«sorted»
  refine wpAny_bind (m := checkCount "sorted" 1 1 _) (wpAny_pure ?_)
  refine wpAny_bind (collect_set (A := A.in1) hh ⟨o, ho, hex.1, hd⟩ hf hb hr hl fun s1 vs k1 hz g1 o1 pm => ?_)
  have hvl : vs.length = n := by rw [pm.length_eq, List.length_map, Array.length_toList]; exact hn
  have hI : StrsAre vs (vs.map strOf) := strsAre_map vs fun v hv => by
    obtain ⟨e, he, q⟩ := List.mem_map.mp (pm.mem_iff.mp hv)
    obtain ⟨k, tk, h1, _⟩ := g e he
    exact ⟨k, tk, by rw [← q]; exact h1⟩
  have pk : (vs.map strOf).Perm (es.toList.map keyS) := by
    have q := pm.map strOf
    rw [List.map_map] at q
    exact q
  refine wpAny_bind (wpAny_newList ?_ (by rw [hvl, sizeLine_eq]; omega))
  have hoL : (s1.heap.push (seqObj "list" vs.toArray 0)).get? s1.heap.objs.size = some (seqObj "list" vs.toArray 0) := Heap.get?_push_size _ rfl
  refine wpAny_bind (wpAny_holding (wpAny_call_entry slot_list_sort ⟨_, hoL, rfl⟩ entry_list_sort (list_sort_treeK strKind_oneLt hoL hI.keysOf (fun v₁ v₂ rest e => keyKind_strs (by rw [← e]; exact hI)) (by rw [hvl]; exact h64) fun st' a1 a2 => ⟨_, rfl, ?_⟩) (args_list_sort _)))
  obtain ⟨ns', b1, b2, b3⟩ := sorted_out_str hI a1 a2
  obtain ⟨c, hc⟩ := sortedHeap_at (vs := vs) (out := (arrOf st').map (·.2)) hoL
  have pn : ns'.Perm (es.toList.map keyS) := b2.trans pk
  refine wpAny_pure ⟨_, rfl, hQ _ s1.heap.objs.size _ c ns' (fun b u e => ?_) g1 o1 hz hc b1 b3 (pn.nodup_iff.mpr nd) (fun k => by rw [pn.mem_iff, ← hm k]) ?_⟩
  · have q := k1 b u e
    have hlt := Heap.lt_size q
    show (sortedHeap (s1.heap.push (seqObj "list" vs.toArray 0)) s1.heap.objs.size vs ((arrOf st').map (·.2))).get? b = some u
    rw [sortedHeap_old (Nat.ne_of_lt hlt) (by rw [size_push']; exact Nat.lt_succ_of_lt hlt)]
    exact Heap.get?_push_of_some _ q
  · rw [pn.length_eq, List.length_map, Array.length_toList]; exact hn
end
section
variable {X : Cx}
/-- sorted(set(xs)), xs a list of fewer than 64 texts -/
def tSortSet (K : PySem.W.Frag) (ta : TE) : TE := fun σ H Q => ta σ H fun x H1 => ∃ l, ∃ xs : List Str, x = .ref l ∧ SqL K H1 l (xs.map V.str) ∧ xs.length < 64 ∧
  ∀ (ys : List Str) (p : Addr), sortedS ys = true → ys.Nodup → (∀ k, k ∈ ys ↔ k ∈ xs) → H1 p = none → Q (.ref p) (upd H1 p (.lst (ys.map V.str)))
theorem pe_sortSet {a : Expr} {ta : TE} {p p2 q pos : Pos} (hc : X.calm = true) (hg : Gl X "sorted") (hm : X.mg "sorted" = none) (hg2 : Gl X "set") (hm2 : X.mg "set" = none) (ha : PE X a ta)
    (na0 : starEach [.Call (.Name "set" p2) [a] [] q] X.env = (false, eval (.Call (.Name "set" p2) [a] [] q) X.env) :: starEach [] X.env := by rfl)
    (na : starEach [a] X.env = (false, eval a X.env) :: starEach [] X.env := by rfl) : PE X (.Call (.Name "sorted" p) [.Call (.Name "set" p2) [a] [] q] [] pos) (tSortSet X.K ta) := by
  refine ⟨fun pins s σ H Q I h => ?_⟩
  refine Call_ (ld_blt I hg hm boot_sorted ?_)
  refine PyProof.Rows.callWith_builtin1 (PyProof.Rows.args_cons ?_ na0) na0 rfl
  refine Call_ (ld_blt I hg2 hm2 boot_set ?_)
  refine PyProof.Rows.callWith_type1 (PyProof.Rows.args_cons (thn (ha.run pins s σ H _ I h) fun v s1 ⟨x, H1, I1, r1, q1⟩ => PyProof.Rows.args_nil ?_) na) na rfl
  obtain ⟨l, xs, rfl, hq, h1, q1⟩ := q1
  cases r1
  obtain ⟨its, r, pl, hz⟩ := I1.list hq
  have hxl : xs.length = its.length := by have := r.length; rwa [List.length_map] at this
  refine call_set_strsL xs (I1.ok.hd hc) pl.isList (by simpa using strsAre_of r) (by unfold scanBound; omega) fun h' tk c hS hcl hk => ?_
  refine PyProof.Rows.args_nil ?_
  have I2 : Inv X pins σ H1 { s1 with heap := h', toks := tk } := I1.kept fun b o e => hk b o e
  have hN1 : H1 s1.heap.objs.size = none := I1.hok.fresh (Nat.le_refl _)
  refine sorted_setS (s := { s1 with heap := h', toks := tk }) hS (I2.ok.hd hc) (by omega) fun s' p out c' ns k g o hp hg' hi hs nd hm hl => ?_
  have hlen : (ns.map V.str).length ≤ sizeLine := by rw [List.length_map, hl, sizeLine_eq]; omega
  have hn : H1 p = none := I2.hok.fresh hp
  have J : Inv X pins σ (upd H1 p (.lst (ns.map V.str))) { ({ s1 with heap := h', toks := tk } : Shared) with heap := s'.heap, gens := s'.gens, drawn := s'.drawn, toks := s'.toks } :=
    I2.call (ch := []) (Un.laid k hp hn) (I2.hok.laid k hp ⟨hlen, out.toList, c', vals_of_strs hi, hg'⟩) (by rw [g]; exact I2.bare) (fun _ z => nomatch z)
  have e : s' = { s1 with heap := s'.heap, gens := s'.gens, drawn := s'.drawn, toks := s'.toks } := by
    obtain ⟨h2, g2, d2, t2, o2⟩ := s'
    simp only [Shared.mk.injEq]
    exact ⟨trivial, trivial, trivial, trivial, o⟩
  rw [e]
  exact ⟨.ref p, _, J, rfl, q1 ns p hs nd (fun k' => by rw [hm k', decide_eq_true_eq]) hn⟩
end
end L2

set_option Elab.async false
set_option linter.all false
set_option maxRecDepth 100000
set_option maxHeartbeats 4000000
namespace DL
open PySem L2
/-! ### texts in order -/
def ltS (a b : Str) : Bool := PySem.Spec.ltCps a.cps.toList b.cps.toList
theorem ltC_irr : ∀ a : List Nat, PySem.Spec.ltCps a a = false
  | [] => rfl
  | x :: r => by simp [PySem.Spec.ltCps, ltC_irr r]
theorem ltC_trans : ∀ {a b c : List Nat}, PySem.Spec.ltCps a b = true → PySem.Spec.ltCps b c = true → PySem.Spec.ltCps a c = true
  | [], [], _, h, _ => by cases h
  | [], _ :: _, [], _, h => by cases h
  | [], _ :: _, _ :: _, _, _ => rfl
  | _ :: _, [], _, h, _ => by cases h
  | _ :: _, _ :: _, [], _, h => by cases h
  | x :: r, y :: s, z :: t, h1, h2 => by
    simp only [PySem.Spec.ltCps, Bool.or_eq_true, decide_eq_true_eq, Bool.and_eq_true, beq_iff_eq] at h1 h2 ⊢
    rcases h1 with h1 | ⟨h1, h3⟩ <;> rcases h2 with h2 | ⟨h2, h4⟩
    · exact .inl (by omega)
    · exact .inl (by omega)
    · exact .inl (by omega)
    · exact .inr ⟨h1.trans h2, ltC_trans h3 h4⟩
theorem ltC_tri : ∀ {a b : List Nat}, PySem.Spec.ltCps a b = false → PySem.Spec.ltCps b a = false → a = b
  | [], [], _, _ => rfl
  | [], _ :: _, h, _ => by cases h
  | _ :: _, [], _, h => by cases h
  | x :: r, y :: s, h1, h2 => by
    simp only [PySem.Spec.ltCps, Bool.or_eq_false_iff, decide_eq_false_iff_not, Bool.and_eq_false_iff, beq_eq_false_iff_ne] at h1 h2
    have e : x = y := by omega
    subst e
    have h3 : PySem.Spec.ltCps r s = false := h1.2.resolve_left (fun z => z rfl)
    have h4 : PySem.Spec.ltCps s r = false := h2.2.resolve_left (fun z => z rfl)
    rw [ltC_tri h3 h4]
theorem str_ext {a b : Str} (h : a.cps.toList = b.cps.toList) : a = b := by
  obtain ⟨⟨l⟩⟩ := a
  obtain ⟨⟨m⟩⟩ := b
  have h : l = m := h
  rw [h]
theorem ltS_irr (a : Str) : ltS a a = false := ltC_irr _
theorem ltS_trans {a b c : Str} (h : ltS a b = true) (k : ltS b c = true) : ltS a c = true := ltC_trans h k
theorem ltS_tri {a b : Str} (h : ltS a b = false) (k : ltS b a = false) : a = b := str_ext (ltC_tri h k)
def insS (x : Str) : List Str → List Str
  | [] => [x]
  | y :: r => if ltS x y then x :: y :: r else if x = y then y :: r else y :: insS x r
/-- the distinct ones, in order -/
def sortU : List Str → List Str
  | [] => []
  | x :: r => insS x (sortU r)
theorem insS_mem {x k : Str} : ∀ {l : List Str}, k ∈ insS x l ↔ k = x ∨ k ∈ l
  | [] => by simp [insS]
  | y :: r => by
    unfold insS
    split
    · simp
    · split
      · rename_i e
        subst e
        simp
      · rw [List.mem_cons, insS_mem (l := r), List.mem_cons]
        constructor
        · rintro (h | h | h)
          · exact .inr (.inl h)
          · exact .inl h
          · exact .inr (.inr h)
        · rintro (h | h | h)
          · exact .inr (.inl h)
          · exact .inl h
          · exact .inr (.inr h)
theorem sortU_mem {k : Str} : ∀ {l : List Str}, k ∈ sortU l ↔ k ∈ l
  | [] => by simp [sortU]
  | x :: r => by rw [sortU, insS_mem, sortU_mem (l := r), List.mem_cons]
theorem insS_pw {x : Str} : ∀ {l : List Str}, l.Pairwise (fun a b => ltS a b = true) → (insS x l).Pairwise (fun a b => ltS a b = true)
  | [], _ => by simp [insS]
  | y :: r, h => by
    unfold insS
    obtain ⟨h1, h2⟩ := List.pairwise_cons.mp h
    split
    · rename_i hxy
      refine List.pairwise_cons.mpr ⟨fun z hz => ?_, h⟩
      rcases List.mem_cons.mp hz with rfl | hz
      · exact hxy
      · exact ltS_trans hxy (h1 z hz)
    · split
      · exact h
      · rename_i n1 n2
        refine List.pairwise_cons.mpr ⟨fun z hz => ?_, insS_pw h2⟩
        rcases insS_mem.mp hz with rfl | hz
        · cases hq : ltS y z with
          | true => rfl
          | false => exact absurd (ltS_tri (by simpa using n1) hq) n2
        · exact h1 z hz
theorem sortU_pw : ∀ (l : List Str), (sortU l).Pairwise (fun a b => ltS a b = true)
  | [] => by simp [sortU]
  | x :: r => insS_pw (sortU_pw r)
theorem pw_uniq : ∀ {l m : List Str}, l.Pairwise (fun a b => ltS a b = true) → m.Pairwise (fun a b => ltS a b = true) → (∀ k, k ∈ l ↔ k ∈ m) → l = m
  | [], [], _, _, _ => rfl
  | [], y :: m, _, _, h => by have := (h y).mpr (by simp); simp at this
  | x :: l, [], _, _, h => by have := (h x).mp (by simp); simp at this
  | x :: l, y :: m, h1, h2, h => by
    obtain ⟨a1, a2⟩ := List.pairwise_cons.mp h1
    obtain ⟨b1, b2⟩ := List.pairwise_cons.mp h2
    have irr : ∀ {z}, ltS z z = true → False := fun {z} q => by rw [ltS_irr] at q; cases q
    have e : x = y := by
      rcases List.mem_cons.mp ((h x).mp (by simp)) with e | e
      · exact e
      · rcases List.mem_cons.mp ((h y).mpr (by simp)) with f | f
        · exact f.symm
        · exact (irr (ltS_trans (a1 y f) (b1 x e))).elim
    subst e
    rw [pw_uniq a2 b2 fun k => ?_]
    constructor
    · intro hk
      rcases List.mem_cons.mp ((h k).mp (List.mem_cons_of_mem _ hk)) with e | e
      · subst e; exact (irr (a1 k hk)).elim
      · exact e
    · intro hk
      rcases List.mem_cons.mp ((h k).mpr (List.mem_cons_of_mem _ hk)) with e | e
      · subst e; exact (irr (b1 k hk)).elim
      · exact e
theorem rising_pw : ∀ {l : List Str} {p : Str}, PyProof.Rows.risingS p l = true → (p :: l).Nodup → (p :: l).Pairwise (fun a b => ltS a b = true)
  | [], p, _, _ => by simp
  | x :: r, p, h, nd => by
    have h' : (!PySem.Spec.ltCps x.cps.toList p.cps.toList && PyProof.Rows.risingS x r) = true := h
    rw [Bool.and_eq_true] at h'
    obtain ⟨n1, n2⟩ := List.nodup_cons.mp nd
    have ih := rising_pw h'.2 n2
    have hpx : ltS p x = true := by
      cases q : ltS p x with
      | true => rfl
      | false =>
        have q2 : ltS x p = false := by simpa [ltS] using h'.1
        exact absurd (by rw [ltS_tri q q2]; simp) n1
    refine List.pairwise_cons.mpr ⟨fun z hz => ?_, ih⟩
    rcases List.mem_cons.mp hz with rfl | hz
    · exact hpx
    · exact ltS_trans hpx ((List.pairwise_cons.mp ih).1 z hz)
theorem sorted_pw {l : List Str} (h : PyProof.Rows.sortedS l = true) (nd : l.Nodup) : l.Pairwise (fun a b => ltS a b = true) := by
  cases l with
  | nil => simp
  | cons x r => exact rising_pw h nd
theorem sortU_of {ys xs : List Str} (h : PyProof.Rows.sortedS ys = true) (nd : ys.Nodup) (m : ∀ k, k ∈ ys ↔ k ∈ xs) : ys = sortU xs :=
  pw_uniq (sorted_pw h nd) (sortU_pw xs) fun k => (m k).trans sortU_mem.symm
theorem sortU_congr {xs ys : List Str} (m : ∀ k, k ∈ xs ↔ k ∈ ys) : sortU xs = sortU ys := pw_uniq (sortU_pw _) (sortU_pw _) fun k => by rw [sortU_mem, sortU_mem, m k]
def strD : Dat → Option Str
  | .str x => some x
  | _ => none
def strsD : List Dat → Option (List Str)
  | [] => some []
  | d :: r => (strD d).bind fun x => (strsD r).bind fun l => some (x :: l)
theorem strsD_some : ∀ {l : List Dat} {xs : List Str}, strsD l = some xs → l = xs.map PyData.str
  | [], _, h => by cases h; rfl
  | d :: r, _, h => by
    obtain ⟨x, e1, h⟩ := Option.bind_eq_some_iff.mp h
    obtain ⟨l, e2, h⟩ := Option.bind_eq_some_iff.mp h
    cases h
    cases d <;> simp only [strD, reduceCtorEq] at e1
    cases e1
    rw [strsD_some e2, List.map_cons]
theorem strsD_map : ∀ (xs : List Str), strsD (xs.map PyData.str) = some xs
  | [] => rfl
  | x :: r => by simp [strsD, strD, strsD_map r]
section
variable [TabsC]
theorem ReachF.growN {K : PySem.W.Frag} {B : Base} {Hf H H1 : Hp} {σ : St} {Γ : Env} {f : Nat → List Addr} {ps : List Pend} (R : ReachF K B Hf H σ Γ f ps) (e : LamX.ExtN H H1) (t : LamX.Tabs TabsC.tabs H1) : ReachF K B Hf H1 σ Γ f ps := by
  have kk : ∀ b, H b ≠ none → (∀ u, H b = some u → NT u) → H1 b = H b := fun b h1 h2 => by
    cases q : H b with
    | none => exact absurd q h1
    | some u => exact e b u q (h2 u q)
  refine ⟨R.len, fun b u q => e b u (R.sub b u q) (R.tab.1 b u q), fun i g hi => (R.slot i g hi).stay (fun b hb => kk b (R.off i b hb).2 (R.nt i b hb)) (Evl.Ex.refl _) fun b hb => (R.off i b hb).1, R.out, R.disj,
    fun p hp => (R.pend p hp).stay (fun b hb => kk b (R.poff hp b hb).2 (R.pnt hp b hb)) (Evl.Ex.refl _) fun b hb => (R.poff hp b hb).1, R.pdis, R.psl, R.ex, fun a o h1 h2 h3 => e a o (R.keep a o h1 h2 h3) h3,
    fun a o h1 h2 => ?_, R.new, R.own, R.pown, R.tab.1, t⟩
  obtain ⟨u, h3, h4⟩ := R.dom a o h1 h2
  exact ⟨u, e a u h3 h4, h4⟩
end
/-! ### {k: v for ..} -/
def keyOfD : Dat → Option Key
  | .int i => some (.inl i)
  | .str x => some (.inr x)
  | _ => none
theorem keyOfD_some {d : Dat} {k : Key} (h : keyOfD d = some k) : d = keyD k := by
  cases d <;> simp only [keyOfD, Option.some.injEq, reduceCtorEq] at h <;> subst h <;> rfl
def putD : List (Key × Dat) → Key → Dat → List (Key × Dat)
  | [], k, d => [(k, d)]
  | p :: r, k, d => if p.1 = k then (k, d) :: r else p :: putD r k d
def pairsD (l : List (Key × Dat)) : List (Dat × Dat) := l.map fun p => (keyD p.1, p.2)
section
variable {K : PySem.W.Frag} {H : Hp}
theorem kV_key {k : Key} {d : Dat} (h : d = keyD k) {v : V} (q : Den K H v d) : v = kV k := by
  cases k with
  | inl i => subst h; cases q; rfl
  | inr x => subst h; cases q; rfl
theorem putK_cons {p : Key × V} {r : List (Key × V)} {k : Key} {v : V} (nd : ((p :: r).map (·.1)).Nodup) : putK (p :: r) k v = if p.1 = k then (k, v) :: r else p :: putK r k v := by
  unfold putK
  by_cases h : p.1 = k
  · rw [if_pos (by simp [h]), if_pos h]
    rw [List.map_cons, if_pos h]
    subst h
    congr 1
    rw [List.map_cons, List.nodup_cons] at nd
    have : r.map (fun kv => if kv.1 = p.1 then (kv.1, v) else kv) = r.map id := List.map_congr_left fun z hz => by
      rw [if_neg fun e => nd.1 (by rw [← e]; exact List.mem_map.mpr ⟨z, hz, rfl⟩)]
      rfl
    rw [this, List.map_id]
  · rw [if_neg h]
    by_cases q : (r.any fun kv => decide (kv.1 = k)) = true
    · rw [if_pos (by simpa [h] using q), if_pos q, List.map_cons, if_neg h]
    · rw [if_neg (by simpa [h] using q), if_neg q, List.cons_append]
theorem denK_keys : ∀ {kvs : List (Key × V)} {acc : List (Key × Dat)}, DenK K H kvs (pairsD acc) → kvs.map (·.1) = acc.map (·.1)
  | [], [], _ => rfl
  | [], _ :: _, h => by cases h
  | _ :: _, [], h => by cases h
  | p :: r, q :: s, h => by
    unfold pairsD at h
    rw [List.map_cons] at h
    generalize he : keyD q.1 = kk at h
    cases h with
    | @cons k v _ d _ h1 h2 =>
      have e : k = q.1 := by
        cases k <;> cases hq : q.1 <;> rw [hq] at he <;> simp_all [keyD]
      rw [List.map_cons, List.map_cons, denK_keys h2, e]
theorem DenK.put : ∀ {kvs : List (Key × V)} {acc : List (Key × Dat)} {k : Key} {v : V} {d : Dat}, DenK K H kvs (pairsD acc) → (acc.map (·.1)).Nodup → Den K H v d → DenK K H (putK kvs k v) (pairsD (putD acc k d))
  | [], [], k, v, d, _, _, q => .cons q .nil
  | [], _ :: _, _, _, _, h, _, _ => by cases h
  | _ :: _, [], _, _, _, h, _, _ => by cases h
  | p :: r, z :: s, k, v, d, h, nd, q => by
    have ks := denK_keys h
    have nd' : ((p :: r).map (·.1)).Nodup := by rw [ks]; exact nd
    rw [putK_cons nd']
    rw [List.map_cons, List.map_cons, List.cons.injEq] at ks
    have h' : DenK K H (p :: r) ((keyD z.1, z.2) :: pairsD s) := h
    have hd : Den K H p.2 z.2 ∧ DenK K H r (pairsD s) := by
      generalize keyD z.1 = kk at h'
      cases h' with
      | cons h1 h2 => exact ⟨h1, h2⟩
    rw [putD, ← ks.1]
    by_cases e : p.1 = k
    · rw [if_pos e, if_pos e]
      exact .cons q hd.2
    · rw [if_neg e, if_neg e]
      have ih := DenK.put hd.2 (List.nodup_cons.mp nd).2 q (k := k)
      have e2 : pairsD (z :: putD s k d) = (keyD p.1, z.2) :: pairsD (putD s k d) := by unfold pairsD; rw [List.map_cons, ks.1]
      rw [e2]
      exact .cons hd.1 ih
theorem putD_keys {k : Key} {d : Dat} {x : Key} : ∀ {acc : List (Key × Dat)}, x ∈ (putD acc k d).map (·.1) ↔ x = k ∨ x ∈ acc.map (·.1)
  | [] => by simp [putD]
  | p :: r => by
    rw [putD]
    by_cases e : p.1 = k
    · rw [if_pos e, List.map_cons, List.map_cons, List.mem_cons, List.mem_cons, e]
      constructor
      · rintro (h | h)
        · exact .inl h
        · exact .inr (.inr h)
      · rintro (h | h | h)
        · exact .inl h
        · exact .inl h
        · exact .inr h
    · rw [if_neg e, List.map_cons, List.map_cons, List.mem_cons, List.mem_cons, putD_keys (acc := r)]
      constructor
      · rintro (h | h | h)
        · exact .inr (.inl h)
        · exact .inl h
        · exact .inr (.inr h)
      · rintro (h | h | h)
        · exact .inr (.inl h)
        · exact .inl h
        · exact .inr (.inr h)
theorem putD_nodup {k : Key} {d : Dat} : ∀ {acc : List (Key × Dat)}, (acc.map (·.1)).Nodup → ((putD acc k d).map (·.1)).Nodup
  | [], _ => by simp [putD]
  | p :: r, nd => by
    rw [putD]
    rw [List.map_cons, List.nodup_cons] at nd
    by_cases e : p.1 = k
    · rw [if_pos e, List.map_cons, List.nodup_cons, ← e]; exact nd
    · rw [if_neg e, List.map_cons, List.nodup_cons]
      refine ⟨fun z => ?_, putD_nodup nd.2⟩
      rcases putD_keys.mp z with z | z
      · exact e z
      · exact nd.1 z
end
end DL

set_option Elab.async false
set_option linter.all false
set_option maxRecDepth 100000
set_option maxHeartbeats 4000000
namespace DL
open PySem L2
variable [TabsC]
section
variable {X : Cx} {K : PySem.W.Frag} {a b c e tg iter kx vx : Expr} {ma mb mc mk mv : M} {mt mu : MT} {mi : MI} {md : MD} {pos p : Pos} {j k n : Nat} {es ifs : List Expr} {g : MG} {scope : Scope} {own : List (Str × Nat)}
def dcL (g : MG) (mt : MT) (mk mv : M) (vs : List Nat) : List Dat → List (Key × Dat) → Env → Option (List (Key × Dat) × Env)
  | [], acc, Γ => some (acc, Γ)
  | x :: xs, acc, Γ => (g (.d x) Γ).bind fun Γ1 => (mt Γ1).bind fun p => if p.1 then
      (mk p.2).bind fun q => (settle q.2 q.1).bind fun s => (keyOfD s.1).bind fun k => (mv s.2).bind fun u => (settle u.2 u.1).bind fun t => if acc.length < lim then dcL g mt mk mv vs xs (putD acc k t.1) (wipeE t.2 vs) else none
    else dcL g mt mk mv vs xs acc (wipeE p.2 vs)
def mDcomp (mi : MI) (g : MG) (mt : MT) (mk mv : M) (vs : List Nat) : M := fun Γ => (mi Γ).bind fun p => if plainAt p.2 vs then
    (dcL g mt mk mv vs p.1 [] (wipeE p.2 vs)).bind fun q => some (.own (.dct (pairsD q.1)), putE q.2 p.2 vs) else none
theorem dc_imp {vs : List Nat} {σ : St} {H : Hp} {Q : VK} (h : tM K (mDcomp mi g mt mk mv vs) σ H Q) : tDc (tI K mi) (tG K vs g) (tT K mt) (tM K mk) (tM K mv) vs σ H Q := by
  obtain ⟨B, Hf, Γ, ps, r, Γ', R, e, kk⟩ := h
  obtain ⟨⟨items, Γ1⟩, e1, e⟩ := bindE e
  simp only at e
  split at e
  · rename_i hpl
    obtain ⟨⟨res, Γ2⟩, e2, e⟩ := bindE e
    cases e
    refine ⟨B, Hf, Γ, ps, items, Γ1, R, e1, fun J Hf1 H1 ⟨f1, R1⟩ hJ => ?_⟩
    intro D hD
    have RB := R1.base
    obtain ⟨fw, RW⟩ := (RB.newD (ds := []) (kvs := []) hD .nil).wiped (by intro p hp j z; simp only [List.mem_singleton] at hp; subst hp; cases z) vs
    refine ⟨fun i j H' => j = items.length - i ∧ i ≤ items.length ∧ ∃ Hf' Γi acc, (acc.map (·.1)).Nodup ∧ Reach K ⟨Hf1, H1, fun a => ∃ i, a ∈ f1 i⟩ Hf' H' (wipe σ vs) Γi [⟨.ref D, .own (.dct (pairsD acc)), [D]⟩] ∧ dcL g mt mk mv vs (items.drop i) acc Γi = some (res, Γ2),
      ⟨_, rfl, Nat.zero_le _, Hf1, _, [], List.nodup_nil, ⟨fw, RW⟩, e2⟩, ?_⟩
    rintro i j H2 ⟨rfl, hil, Hf2, Γi, acc, nd, ⟨f2, R2⟩, e3⟩
    have nbD : ∀ acc', NoBor [⟨.ref D, .own (.dct acc'), [D]⟩] := fun acc' p hp j z => by simp only [List.mem_singleton] at hp; subst hp; cases z
    by_cases hlt : i < items.length
    · have hx : items[i]? = some items[i] := by simp [hlt]
      obtain ⟨go, yl⟩ := (hJ Hf2 H2 R2.ex R2.sub i).1 _ hx
      rw [List.drop_eq_getElem_cons hlt] at e3
      obtain ⟨Γ3, e4, e3⟩ := bindE e3
      obtain ⟨⟨b5, Γ5⟩, e5, e3⟩ := bindE e3
      refine .inr ⟨go, fun H' => ∃ Hf' Γi acc, (acc.map (·.1)).Nodup ∧ Reach K ⟨Hf1, H1, fun a => ∃ i, a ∈ f1 i⟩ Hf' H' (wipe σ vs) Γi [⟨.ref D, .own (.dct (pairsD acc)), [D]⟩] ∧ dcL g mt mk mv vs (items.drop (i + 1)) acc Γi = some (res, Γ2), fun H' q => ⟨_, by omega, rfl, hlt, q⟩, fun x H' hy => ?_⟩
      obtain ⟨Hf3, _, R3⟩ := yld_ok ⟨f2, R2⟩ (yl x H' hy)
      refine ⟨_, Hf3, Γi, _, _, [], Γ3, R3, nbD _, e4, fun σ3 Hf4 l3 s3 _ R4 => ?_⟩
      have ew : wipe σ3 vs = wipe σ vs := by
        rw [wipe_stay l3 s3]
        exact wipe_stay (by rw [wipe_length]) fun j hj => wipe_get hj
      refine ⟨ew, _, Hf4, Γ3, _, b5, Γ5, R4, e5, fun Hf5 H5 R5 => ?_⟩
      cases b5 with
      | false =>
        simp only [Bool.false_eq_true, if_false] at e3 ⊢
        obtain ⟨f5, R5⟩ := R5
        have := R5.wiped (nbD _) vs
        rw [ew] at this
        exact ⟨Hf5, _, acc, nd, this, e3⟩
      | true =>
        simp only [if_true] at e3 ⊢
        obtain ⟨⟨s6, Γ6⟩, e6, e3⟩ := bindE e3
        obtain ⟨⟨d7, Γ7⟩, e7, e3⟩ := bindE e3
        obtain ⟨ky, e8, e3⟩ := bindE e3
        obtain ⟨⟨s9, Γ9⟩, e9, e3⟩ := bindE e3
        obtain ⟨⟨d10, Γ10⟩, e10, e3⟩ := bindE e3
        simp only at e3
        split at e3
        · rename_i hal
          refine ⟨_, Hf5, Γ5, _, s6, Γ6, R5, e6, fun y fp H6f H6 R6 => ?_⟩
          obtain ⟨Hf7, _, R7⟩ := R6.settle e7
          refine ⟨_, Hf7, Γ7, _, s9, Γ9, R7, e9, fun z fz Hf9 H9 R9 => ?_⟩
          obtain ⟨Hf10, _, f10, R10⟩ := R9.settle e10
          have dz := (R10.pend _ List.mem_cons_self).2
          have dy := (R10.pop.pend _ List.mem_cons_self).2
          have R11 := R10.pop.pop
          obtain ⟨a, ea, efp, hfD, accV, hDa, dacc⟩ : ∃ a, V.ref D = .ref a ∧ [D] = [a] ∧ Hf10 a = none ∧ ∃ xs, H9 a = some (.dK xs) ∧ DenK K Hf10 xs (pairsD acc) := (R11.pend _ List.mem_cons_self)
          cases ea
          have hl : accV.length = acc.length := by
            have := congrArg List.length (denK_keys dacc)
            rwa [List.length_map, List.length_map] at this
          refine ⟨accV, ky, kV_key (keyOfD_some e8) dy, hDa, by rw [hl]; exact Nat.lt_of_lt_of_le hal lim_le, ?_⟩
          have R12 := R11.writeP (o' := .dct (pairsD (putD acc ky d10))) (u := .dK (putK accV ky z)) ⟨rfl, hfD, _, upd_same, dacc.put nd dz⟩
          have := R12.wiped (nbD _) vs
          rw [ew] at this
          exact ⟨Hf10, _, _, putD_nodup nd, this, e3⟩
        · cases e3
    · have hie : i = items.length := by omega
      refine .inl ⟨(hJ Hf2 H2 R2.ex R2.sub i).2 hie, ?_⟩
      rw [hie, List.drop_length] at e3
      cases e3
      have hp : ∀ v ∈ vs, ∃ s, Γ1[v]? = some s ∧ plainS s = true := fun v hv => by
        have := List.all_eq_true.mp hpl v hv
        split at this
        · rename_i s hs; exact ⟨s, hs, this⟩
        · cases this
      obtain ⟨f3, R3⟩ := R2.remap (σ' := σ) (Γ' := putE Γ2 Γ1 vs) (by rw [wipe_length]) (putE_len _ _ _) (nbD _) fun i s h => by
        rcases putE_get h with ⟨q1, q2⟩ | ⟨q1, q2⟩
        · rcases q1 with q1 | q1
          · exact .inl ⟨q2, (wipe_get q1).symm⟩
          · by_cases hi : i ∈ vs
            · obtain ⟨s', hs', _⟩ := hp i hi
              rw [q1] at hs'
              cases hs'
            · exact .inl ⟨q2, (wipe_get hi).symm⟩
        · obtain ⟨s', hs', hpl'⟩ := hp i q1
          rw [q2] at hs'
          cases hs'
          have q := R1.slot i _ q2
          refine .inr ⟨?_, by intro o z; subst z; cases hpl'⟩
          cases s with
          | no => rfl
          | d x => obtain ⟨_, v, q3, q4⟩ := q; exact ⟨rfl, v, q3, q4.mono R2.ex⟩
          | fn a => exact ⟨rfl, q.2⟩
          | z ds => obtain ⟨_, v, q3, q4⟩ := q; exact ⟨rfl, v, q3, q4.mono R2.ex⟩
          | own o => cases hpl'
          | bor j => cases hpl'
      have R4 := R1.trans R3 (.inr rfl)
      exact kk (.ref D) [D] Hf2 H2 ⟨f3, R4⟩
  · cases e
theorem d_dc (hc : Cok k X) (hi : PI X tg iter (tI X.K mi)) (ok : BlkOk X.N X.env.scope scope own)
    (hg : ∀ (s : Shared) (H : Hp) (C : Addr) (cl : List (Str × Addr)) (fp : List Addr), PG (X.blk s H scope (compEnvC scope cl C X.env) fp) tg (tG X.K (own.map (·.2)) g))
    (ht : ∀ (s : Shared) (H : Hp) (C : Addr) (cl : List (Str × Addr)) (fp : List Addr), PTs (X.blk s H scope (compEnvC scope cl C X.env) fp) ifs (tT X.K mt))
    (hk : ∀ (s : Shared) (H : Hp) (C : Addr) (cl : List (Str × Addr)) (fp : List Addr), PE (X.blk s H scope (compEnvC scope cl C X.env) fp) kx (tM X.K mk))
    (he : ∀ (s : Shared) (H : Hp) (C : Addr) (cl : List (Str × Addr)) (fp : List Addr), PE (X.blk s H scope (compEnvC scope cl C X.env) fp) vx (tM X.K mv)) (hs : ∀ x, foldedSetIterable iter X.env x = pure x := by intro _; rfl) :
    PE X (.DictComp kx vx [⟨tg, iter, ifs, 0⟩] scope pos) (tM X.K (mDcomp mi g mt mk mv (own.map (·.2)))) := PE.imp (pe_dc hc.calm hc.nd hi ok hg ht hk he hs) fun _ _ _ => dc_imp
/-! ### sorted(dict of texts), sorted(set(texts)) -/
def keysS : List (Dat × Dat) → Option (List Str)
  | [] => some []
  | q :: r => (strD q.1).bind fun x => (keysS r).bind fun l => some (x :: l)
omit [TabsC] in
theorem keysS_den {H : Hp} : ∀ {ps : List (Dat × Dat)} {kvs : List (Key × V)} {ks : List Str}, keysS ps = some ks → DenK K H kvs ps → kvs.map (·.1) = ks.map Sum.inr
  | [], [], _, h, _ => by cases h; rfl
  | [], _ :: _, _, _, h => by cases h
  | _ :: _, [], _, _, h => by cases h
  | q :: r, p :: s, _, h, d => by
    obtain ⟨x, e1, h⟩ := Option.bind_eq_some_iff.mp h
    obtain ⟨l, e2, h⟩ := Option.bind_eq_some_iff.mp h
    cases h
    cases d with
    | @cons kq v _ d0 _ h1 h2 =>
      cases kq with
      | inl i => simp [keyD, strD] at e1
      | inr y =>
        simp only [keyD, strD, Option.some.injEq] at e1
        rw [List.map_cons, List.map_cons, keysS_den e2 h2, e1]
def gSortD : Slot → Env → Option (Slot × Env) := fun s Γ => match s with
  | .own (.dct ps) => (keysS ps).bind fun ks => if ks.Nodup ∧ ks.length < 64 then some (.own (.lst ((sortU ks).map .str)), Γ) else none
  | _ => none
omit [TabsC] in
theorem dens_strs {H : Hp} : ∀ (l : List Str), Dens K H (l.map V.str) (l.map PyData.str)
  | [] => .nil
  | x :: r => .cons (.str x) (dens_strs r)
theorem d_sortD (c : Cok k X) (ha : PE X a (tM X.K ma)) (hm : X.mg "sorted" = none) (hg : Gl X "sorted" := by rfl) (h1 : starEach [a] X.env = (false, eval a X.env) :: starEach [] X.env := by rfl) : PE X (.Call (.Name "sorted" p) [a] [] pos) (tM X.K (mUn gSortD ma)) :=
  PE.imp (pe_callB (call_sortedD c.calm) hg hm PyProof.Rows.boot_sorted (pa_cons ha pa_nil h1) (he := h1)) fun σ H Q h => cb_imp (by
    intro B Hf H σ Γ ps x s fp res Γ' ⟨f, R⟩ e Q kk
    unfold gSortD at e
    split at e
    case h_2 => cases e
    rename_i pairs
    obtain ⟨ks, e2, e⟩ := bindE e
    split at e
    · rename_i hn
      simp only [Option.some.injEq, Prod.mk.injEq] at e
      obtain ⟨rfl, rfl⟩ := e
      obtain ⟨a0, ea, _, _, kvs, hr, hk⟩ := R.pend _ List.mem_cons_self
      simp only at ea
      subst ea
      · refine ⟨a0, kvs, ks, rfl, Rd.of hr, keysS_den e2 hk, hn.2, fun ys q hp hs hq => ?_⟩
        have e3 : ys = sortU ks := sortU_of hs (hp.nodup_iff.mpr hn.1) fun z => hp.mem_iff
        subst e3
        exact kk _ _ _ _ ⟨f, R.pop.newL hq (dens_strs _)⟩
    · cases e) h
def gSortSet : Slot → Env → Option (Slot × Env) := fun s Γ => (viewD Γ s).bind fun d => match d with
  | .list l => (strsD l).bind fun xs => if xs.length < 64 then some (.own (.lst ((sortU xs).map .str)), Γ) else none
  | _ => none
theorem d_sortSet {p2 q0 : Pos} (c : Cok k X) (ha : PE X a (tM X.K ma)) (hm : X.mg "sorted" = none) (hm2 : X.mg "set" = none) (hg : Gl X "sorted" := by rfl) (hg2 : Gl X "set" := by rfl)
    (na0 : starEach [.Call (.Name "set" p2) [a] [] q0] X.env = (false, eval (.Call (.Name "set" p2) [a] [] q0) X.env) :: starEach [] X.env := by rfl) (na : starEach [a] X.env = (false, eval a X.env) :: starEach [] X.env := by rfl) :
    PE X (.Call (.Name "sorted" p) [.Call (.Name "set" p2) [a] [] q0] [] pos) (tM X.K (mUn gSortSet ma)) := PE.imp (pe_sortSet c.calm hg hm hg2 hm2 ha na0 na) fun σ H Q h => by
  obtain ⟨B, Hf, Γ, ps, r, Γ', R, e, kk⟩ := h
  obtain ⟨⟨s1, Γ1⟩, e1, e⟩ := bindE e
  obtain ⟨d, e2, e⟩ := bindE e
  refine ⟨B, Hf, Γ, ps, s1, Γ1, R, e1, fun x fp1 Hf1 H1 ⟨f, R1⟩ => ?_⟩
  cases d <;> simp only [reduceCtorEq] at e
  obtain ⟨xs, e3, e⟩ := bindE e
  split at e
  · rename_i hn
    simp only [Option.some.injEq, Prod.mk.injEq] at e
    obtain ⟨rfl, rfl⟩ := e
    obtain ⟨a1, vs, h1, q1, dx⟩ := R1.itemsP (p := ⟨x, s1, fp1⟩) (by simp) e2 rfl
    rw [strsD_some e3] at dx
    have := dx.strs
    subst this
    refine ⟨a1, xs, h1, .inl (by simpa using q1), hn, fun ys q hs nd hm2 hq => ?_⟩
    have e4 : ys = sortU xs := sortU_of hs nd hm2
    subst e4
    exact kk _ _ _ _ ⟨f, R1.pop.newL hq (dens_strs _)⟩
  · cases e
end
end DL

set_option Elab.async false
set_option linter.all false
set_option maxRecDepth 100000
set_option maxHeartbeats 4000000
namespace L2
open PySem PySem.Spec PyProof.Rows PySem.W
/-- (len(x), x) -/
abbrev lenPair (x : Str) (p1 p2 p3 p4 p5 : Pos) (j : Nat) : Expr := .Tuple [.Call (.Name "len" p1) [.Name x p2] [] p3, .Name x p4] j p5
/-- what the key of a tuple of ints is -/
def lotKey (l : List Int) : PyData := .tuple [.int l.length, .tuple (l.map PyData.int)]
theorem lot_alike (a b : List Int) : alike (lotKey a) (lotKey b) = true := by
  unfold lotKey
  simp [alike, alikeAll, alike_ints]
theorem lot_depth (a : List Int) : (lotKey a).depth ≤ 5 := by
  unfold lotKey
  simp [PyData.depth, PyData.depthAll, depth_ints]
section
variable {P : Program} {w : World} {A : Around} {E : Value → Shared → Prop} {s : Shared} {mg mb : Str → Option Value}
theorem len_tupX {t : Addr} {items : Array Value} {Q : Value → Shared → Prop} (ht : IsTup s.heap t items) (hfit : (items.size : Int) < 2 ^ 63) (h : ∀ tk u, Q (.int items.size u) { s with toks := tk }) :
    wpAny (model P w) A (call (.builtin "len") [.ref t]) Q E s := by
  exact len_tuple ht hfit (h _ _)
theorem key_run {x : Str} {p1 p2 p3 p4 p5 : Pos} {j : Nat} {env : Env} {L t : Addr} {items : Array Value} {m : Str → Option Value} {Q : Value → Shared → Prop} (hk : env.scope.kind = .function) (hl : env.kindOf x = some .local) (hL : env.locals = L) (hn : s.heap.Ns L m) (hm : m x = some (.ref t))
    (hg : env.kindOf "len" = some .globalImplicit) (hge : s.heap.Ns env.globals mg) (hgl : mg "len" = none) (hbe : s.heap.Ns env.builtins mb) (hbl : mb "len" = bootBuiltins "len") (ht : IsTup s.heap t items) (hz : (items.size : Int) < 2 ^ 63) (hd : (x == ("__debug__" : Str)) = false)
    (h : ∀ tk u, Q (.ref s.heap.objs.size) { s with heap := s.heap.push { cls := .type "tuple", data := .seq #[.int items.size u, .ref t] }, toks := tk }) :
    wpAny (model P w) A (eval (lenPair x p1 p2 p3 p4 p5 j) env) Q E s := by
  refine Tuple_ (args_cons (Call_ (Calls.Name_function_global hk hg (Calls.loadGlobal_builtin hge hgl hbe (hbl.trans boot_len) ?_) (by decide))) rfl)
  refine callWith_builtin1 (args_cons (wpAny_Name (wpAny_loadName_local hk hl (by rw [hL]; exact hn) hm ?_) hd) rfl) rfl rfl
  refine args_nil (len_tupX ht hz fun tk u => ?_)
  refine args_cons (wpAny_Name (wpAny_loadName_local hk hl (by rw [hL]; exact hn) hm ?_) hd) rfl
  refine args_nil (wpAny_newTuple ?_)
  exact h tk u
end
theorem readsInts {h : Heap} : ∀ {l : List Value} {b : List Int}, IntsAre l b → ReadsAll h l (b.map PyData.int) []
  | _, _, .nil => .nil
  | _, _, .cons n t r => by
    have q : ReadsAll h (.int n t :: _) (.int n :: _) ([] ++ []) := .cons (.int n t) (readsInts r)
    exact q
theorem eachTo {α β : Type} {R S : α → β → Prop} (h : ∀ a b, R a b → S a b) : ∀ {l : List α} {m : List β}, EachIs R l m → EachIs S l m
  | _, _, .nil => .nil
  | _, _, .cons q r => .cons (h _ _ q) (eachTo h r)
section
variable {X : Cx} {pins : List (Addr × Obj)} {σ : L2.St} {H : Hp} {s : Shared}
/-- a value that is a tuple of the ints b -/
def TupI (G : V → List Int → Prop) (K : PySem.W.Frag) (H : Hp) (v : V) (b : List Int) : Prop := ∃ t, v = .ref t ∧ SqT K H t (b.map V.int) ∧ G v b
def TupIV (G : V → List Int → Prop) (h : Heap) (K : PySem.W.Frag) (H : Hp) (u : Value) (b : List Int) : Prop := ∃ t, u = .ref t ∧ (SqT K H t (b.map V.int) ∧ G (.ref t) b) ∧ ∃ its : List Value, IsTup h t its.toArray ∧ IntsAre its b ∧ b.length ≤ sizeLine
theorem tupIV_of {G : V → List Int → Prop} (I : Inv X pins σ H s) : ∀ {xs : List V} {us : List Value} {bs : List (List Int)}, Vals xs us → EachIs (TupI G X.K H) xs bs → EachIs (TupIV G s.heap X.K H) us bs
  | _, _, _, .nil, .nil => .nil
  | _, _, _, .cons r rs, .cons q qs => by
    obtain ⟨t, rfl, hq⟩ := q
    cases r
    obtain ⟨its, rv, p, hz⟩ := I.tuple hq.1
    exact .cons ⟨t, rfl, hq, its, p, ints_of_vals rv, by rw [List.length_map] at hz; exact hz⟩ (tupIV_of I rs qs)
theorem tupIV_back {G : V → List Int → Prop} {h : Heap} {K : PySem.W.Frag} : ∀ {us : List Value} {bs : List (List Int)}, EachIs (TupIV G h K H) us bs → ∃ ys, Vals ys us ∧ EachIs (TupI G K H) ys bs
  | _, _, .nil => ⟨[], .nil, .nil⟩
  | _, _, .cons q qs => by
    obtain ⟨t, rfl, hq, _⟩ := q
    obtain ⟨ys, h1, h2⟩ := tupIV_back qs
    exact ⟨.ref t :: ys, .cons (show RelV (.ref t) (.ref t) from rfl) h1, .cons ⟨t, rfl, hq⟩ h2⟩
def tSortLen (T : List (Addr × Str)) (K : PySem.W.Frag) (ta : TE) : TE := fun σ H Q => ta σ H fun x H1 => LamX.Tabs T H1 ∧ ∀ H2, LamX.ExtN H1 H2 → LamX.Tabs T H2 → ∃ (G : V → List Int → Prop) (l : Addr) (xs : List V) (bs : List (List Int)), x = .ref l ∧ SqL K H2 l xs ∧ EachIs (TupI G K H2) xs bs ∧
  ∀ (ys : List V) (p : Addr), EachIs (TupI G K H2) ys (bs.mergeSort (dataLe false lotKey)) → H2 p = none → Q (.ref p) (upd H2 p (.lst ys))
theorem pe_sortLen {T : List (Addr × Str)} {c P : Addr} {a : Expr} {ta : TE} {x : Str} {params : Arguments} {scope : Scope} {p p1 p2 p3 p4 p5 lp kp pos : Pos} {j : Nat} (hc : X.calm = true) (hA : X.A.units + 64 < cLine) (hdp : X.A.depth + 5 < recursionLimit) (TB : LamX.TabB X.base X.mg c P) (hcode : X.env.code = .ref c)
    (hm : (P, X.env.qual ++ "<lambda>") ∈ T) (hu : ∀ p ∈ T, p.1 = P → p.2 = X.env.qual ++ "<lambda>") (hg : Gl X "sorted") (hms : X.mg "sorted" = none) (hml : X.mg "len" = none) (ha : PE X a ta)
    (hdef : defaultsOf params X.env = ([], []) := by rfl) (hfree : ∀ y ∈ scope.names, y.2 = .free → ∃ c, X.env.cells.lookup y.1 = some c := by decide +kernel) (hkd : scope.kind = .function := by rfl) (hco : scope.isCoroutine = false := by rfl) (hgen : scope.isGenerator = false := by rfl)
    (hcell : ∀ y ∈ scope.names, y.2 ≠ .cell := by decide +kernel) (hxl : scope.names.lookup x = some .local := by rfl) (hll : scope.names.lookup ("len" : Str) = some .globalImplicit := by rfl) (hd : (x == ("__debug__" : Str)) = false := by decide)
    (hbind : ∀ (cl : List (Str × Addr)) (pm cdv ctv v : Value), bindArgs (kla_fn "<lambda>" (X.env.qual ++ "<lambda>") params (lenPair x p1 p2 p3 p4 p5 j) scope cl pm cdv ctv) ⟨[v], []⟩ = pure [(x, v)] := by intro _ _ _ _ _; rfl)
    (he : backTo pos (starEach [a] X.env) = (false, eval a X.env) :: backTo pos (starEach [] X.env) := by rfl) (hpl : (backTo pos (starEach [a] X.env)).any (·.1) = false := by rfl) (na : starEach [a] X.env = (false, eval a X.env) :: starEach [] X.env := by rfl) :
    PE X (.Call (.Name "sorted" p) [a] [⟨some "key", .Lambda params (lenPair x p1 p2 p3 p4 p5 j) scope lp, kp⟩] pos) (tSortLen T X.K ta) := by
  refine ⟨fun pins s σ H Q I h => ?_⟩
  refine wpAny_Call_Name_kw (ld_blt I hg hms boot_sorted ?_ (by decide) (by decide))
  refine callWith_kw (args_cons (thn (ha.run pins s σ H _ I h) fun v s1 ⟨y, H1, I1, r1, hT, q1⟩ => args_nil ?_) na) he hpl
  show wpAny _ _ (evalAll [do let v ← eval (.Lambda params (lenPair x p1 p2 p3 p4 p5 j) scope lp) X.env; standAt pos; pure v]) _ _ s1
  refine wpAny_evalAll_cons (wpAny_bind (LamX.lam_make2 I1 TB hcode hm hu hT hdef hfree fun f c' pm ctv H2 s2 I2 eN hT2 hf hfn hfr hcc => wpAny_bind (wpAny_standAt (wpAny_pure (wpAny_evalAll_nil ?_)))))
  obtain ⟨G, l, xs, bs, rfl, hxs, hbs, q⟩ := q1 H2 eN hT2
  cases r1
  obtain ⟨its, rv, pl, hz⟩ := I2.list hxs
  have eV := tupIV_of I2 rv hbs
  have hlb : bs.length ≤ sizeLine := by rw [← eV.length, ← rv.length]; exact hz
  obtain ⟨⟨oc, cvs, ct, hoc, hdc, hvc⟩, _⟩ := I2.hok c' _ hcc
  show wpAny (model X.prog X.w) X.A (call (.builtin "sorted") [.ref l] [(Str.ofString "key", .ref f)]) _ _ s2
  refine sorted_key_data (s := s2) (R := TupIV G s2.heap X.K H2) (b := false) lotKey pl.isList eV (AllAlike.of lot_alike) (Sortable.tuples fun b => ⟨_, _, rfl⟩) hlb (fun b _ => by have := lot_depth b; omega) (ksk_s1 _ _) (fun z => by unfold argsOk; kernel_rfl) (fun z => ksk_t1 f z)
    (fun v b hR hb h tk kp => ?_) fun out cc h' tk kp hnone hout hlen eo => ?_
  · obtain ⟨t, rfl, hq, its2, ht, hi, hbl⟩ := hR
    have of1 := kp _ _ hf
    refine wpAny_call (kla_callFunE (by show X.A.depth < _; omega) of1 rfl hco hgen rfl ⟨c', oc, cvs, ct, rfl, kp _ _ hoc, hdc, hvc⟩ ?_)
    rw [hbind]
    refine wpAny_pure (wpAny_newFunctionEnv hcell (fun y hy => by rw [List.mem_singleton.mp hy]; exact hxl) (fun h₁ hns hsb => ⟨(I2.nolimit.keeps kp).fresh _ hsb, ?_⟩) hkd)
    refine kla_codeExpr ?_
    have kp1 : ∀ b o, h.get? b = some o → h₁.get? b = some o := fun b o e => hsb.extBut b o (Nat.ne_of_lt (Heap.lt_size e)) (Heap.get?_push_of_some _ e)
    have kp2 : ∀ b o, s2.heap.get? b = some o → h₁.get? b = some o := fun b o e => kp1 b o (kp b o e)
    obtain ⟨mb, hb1, hb2⟩ := I2.mod.blt
    have ht1 : IsTup h₁ t its2.toArray := by
      obtain ⟨o, e1, e2⟩ := ht
      exact ⟨o, kp2 _ _ e1, e2⟩
    have hsz : its2.toArray.size = b.length := by rw [List.size_toArray, hi.length]
    refine key_run (L := h.objs.size) (mg := X.mg) (mb := mb) hkd hxl rfl hns (by simp [List.lookup]) hll ((I2.mod.glob.keeps I2.bk).keeps kp2) hml ((hb1.keeps I2.bk).keeps kp2) (hb2 _ (by decide)) ht1 (by rw [hsz]; exact Int.ofNat_lt.mpr (Nat.lt_of_le_of_lt hbl (by decide))) hd fun tk2 u => ?_
    refine ⟨_, _, rfl, fun b' o e => Heap.get?_push_of_some _ (kp1 b' o e), ?_⟩
    rw [hsz]
    have hT3 : Reads (h₁.push { cls := .type "tuple", data := .seq #[.int b.length u, .ref t] }) (.ref t) (.tuple (b.map PyData.int)) [] := by
      obtain ⟨o, e1, e2, n, e3⟩ := ht1
      exact .tuple (Heap.get?_push_of_some _ e1) e2 e3 (readsInts hi)
    have hL : ReadsAll (h₁.push { cls := .type "tuple", data := .seq #[.int b.length u, .ref t] }) [.int b.length u, .ref t] [.int b.length, .tuple (b.map PyData.int)] ([] ++ ([] ++ [])) := .cons (.int _ _) (.cons hT3 .nil)
    exact .tuple (Heap.get?_push_size _ rfl) rfl rfl hL
  · obtain ⟨ys, hys, hyb⟩ := tupIV_back eo
    have hle : s2.heap.objs.size ≤ s2.heap.objs.size + 1 := Nat.le_succ _
    have hn := I2.hok.fresh hle
    refine ⟨.ref (s2.heap.objs.size + 1), _, I2.laid (t' := tk) (o := .lst ys) kp hle ⟨?_, out, cc, hys, hout⟩, rfl, q ys _ hyb hn⟩
    rw [hys.length, hlen]
    exact hlb
end
end L2

set_option Elab.async false
set_option linter.all false
set_option maxRecDepth 100000
set_option maxHeartbeats 4000000
namespace DL
open PySem L2
variable [TabsC]
def tupsOf : List Dat → Option (List (List Int))
  | [] => some []
  | .tuple l :: r => (intsOf l).bind fun b => (tupsOf r).bind fun bs => some (b :: bs)
  | _ => none
theorem tupsOf_some : ∀ {l : List Dat} {bs : List (List Int)}, tupsOf l = some bs → l = bs.map fun b => .tuple (b.map PyData.int)
  | [], _, h => by cases h; rfl
  | d :: r, _, h => by
    cases d <;> simp only [tupsOf, reduceCtorEq] at h
    obtain ⟨b, e1, h⟩ := Option.bind_eq_some_iff.mp h
    obtain ⟨bs, e2, h⟩ := Option.bind_eq_some_iff.mp h
    cases h
    rw [tupsOf_some e2, List.map_cons, ← intsOf_eq e1]
def tupD (b : List Int) : Dat := .tuple (b.map PyData.int)
def gSortLen : Slot → Env → Option (Slot × Env) := fun s Γ => (viewD Γ s).bind fun d => match d with
  | .list l => (tupsOf l).bind fun bs => some (.own (.lst ((bs.mergeSort (PySem.W.dataLe false lotKey)).map tupD)), Γ)
  | _ => none
omit [TabsC] in
theorem each_of {K : PySem.W.Frag} {Hf H : Hp} (s : Ex Hf H) : ∀ {bs : List (List Int)} {xs : List V}, Dens K Hf xs (bs.map tupD) → PySem.W.EachIs (TupI (fun v b => Den K Hf v (tupD b)) K H) xs bs
  | [], _, .nil => .nil
  | b :: bs, _, .cons h t => by
    refine .cons ?_ (each_of s t)
    have h0 := h
    cases h with
    | @tup a xs _ h1 h2 =>
      have := h2.ints
      subst this
      exact ⟨a, rfl, SqT.of (s _ _ h1), h0⟩
omit [TabsC] in
theorem dens_each {K : PySem.W.Frag} {Hf H : Hp} : ∀ {bs : List (List Int)} {ys : List V}, PySem.W.EachIs (TupI (fun v b => Den K Hf v (tupD b)) K H) ys bs → Dens K Hf ys (bs.map tupD)
  | [], _, .nil => .nil
  | b :: bs, _, .cons h t => by
    obtain ⟨a, rfl, _, h1⟩ := h
    exact .cons h1 (dens_each t)
section
variable {X : Cx} {a : Expr} {ma : M} {k : Nat} {P c : Addr} {x : Str} {params : Arguments} {scope : Scope} {p p1 p2 p3 p4 p5 lp kp pos : Pos} {j : Nat}
theorem d_sortLen (hc : Cok k X) (TB : LamX.TabB X.base X.mg c P) (hcode : X.env.code = .ref c) (hm : (P, X.env.qual ++ "<lambda>") ∈ TabsC.tabs) (hu : ∀ p ∈ TabsC.tabs, p.1 = P → p.2 = X.env.qual ++ "<lambda>")
    (ha : PE X a (tM X.K ma)) (hms : X.mg "sorted" = none) (hml : X.mg "len" = none) (hg : Gl X "sorted" := by rfl)
    (hdef : defaultsOf params X.env = ([], []) := by rfl) (hnf : (scope.names.all fun y => decide (y.2 ≠ .free)) = true := by rfl) (hkd : scope.kind = .function := by rfl) (hco : scope.isCoroutine = false := by rfl) (hgen : scope.isGenerator = false := by rfl)
    (hcell : ∀ y ∈ scope.names, y.2 ≠ .cell := by decide +kernel) (hxl : scope.names.lookup x = some .local := by rfl) (hll : scope.names.lookup ("len" : Str) = some .globalImplicit := by rfl) (hd : (x == ("__debug__" : Str)) = false := by decide)
    (hbind : ∀ (cl : List (Str × Addr)) (pm cdv ctv v : Value), bindArgs (PySem.W.kla_fn "<lambda>" (X.env.qual ++ "<lambda>") params (lenPair x p1 p2 p3 p4 p5 j) scope cl pm cdv ctv) ⟨[v], []⟩ = pure [(x, v)] := by intro _ _ _ _ _; rfl)
    (he : backTo pos (starEach [a] X.env) = (false, eval a X.env) :: backTo pos (starEach [] X.env) := by rfl) (hpl : (backTo pos (starEach [a] X.env)).any (·.1) = false := by rfl) (na : starEach [a] X.env = (false, eval a X.env) :: starEach [] X.env := by rfl) :
    PE X (.Call (.Name "sorted" p) [a] [⟨some "key", .Lambda params (lenPair x p1 p2 p3 p4 p5 j) scope lp, kp⟩] pos) (tM X.K (mUn gSortLen ma)) :=
  PE.imp (pe_sortLen hc.calm hc.hu (by have := hc.room.dp; omega) TB hcode hm hu hg hms hml ha hdef (fun y hy e => absurd e (of_decide_eq_true (List.all_eq_true.mp hnf y hy))) hkd hco hgen hcell hxl hll hd hbind he hpl na) fun σ H Q h => by
    obtain ⟨B, Hf, Γ, ps, r, Γ', R, e, kk⟩ := h
    obtain ⟨⟨s1, Γ1⟩, e1, e⟩ := bindE e
    obtain ⟨d, e2, e⟩ := bindE e
    refine ⟨B, Hf, Γ, ps, s1, Γ1, R, e1, fun x fp1 Hf1 H1 ⟨f, R1⟩ => ⟨R1.tab.2, fun H2 eN hT2 => ?_⟩⟩
    have R2 := R1.growN eN hT2
    cases d <;> simp only [reduceCtorEq] at e
    obtain ⟨bs, e3, e⟩ := bindE e
    simp only [Option.some.injEq, Prod.mk.injEq] at e
    obtain ⟨rfl, rfl⟩ := e
    obtain ⟨a1, vs, h1, q1, dx⟩ := R2.itemsP (p := ⟨x, s1, fp1⟩) (by simp) e2 rfl
    rw [tupsOf_some e3] at dx
    refine ⟨fun v b => Den X.K Hf1 v (tupD b), a1, vs, bs, h1, .inl (by simpa using q1), each_of R2.sub dx, fun ys q hy hq => ?_⟩
    exact kk _ _ _ _ ⟨f, R2.pop.newL hq (dens_each hy)⟩
end
end DL

set_option Elab.async false
set_option linter.all false
set_option maxRecDepth 100000
set_option maxHeartbeats 4000000
namespace DL
open PySem L2
variable [TabsC]
section
variable {P : Program} {w : World} {K : PySem.W.Frag} {mg : Str → Option Value} {base : Heap}
theorem okMC {x qual : Str} {params : Arguments} {body : List Stmt} {scope : Scope} {f c0 : Addr} {fd : FuncData} {N ps : List Str} {k : Nat} {W : List Nat} {m : MS} (F : L2.FunD K x qual params body scope [] [] f fd) (S : FnScope N ps scope) (hm : mg x = some (.ref f)) (hcd : fd.code = .ref c0)
    (hba : ∀ (kV doc pm : Value) (an : Option Addr) (cdv ct : Value) (us : List Value), us.length = ps.length → bindArgs (PySem.W.fnOf x qual params body scope .none kV doc pm an cdv ct) ⟨us, []⟩ = pure (ps.zip us))
    (hb : ∀ (A : Around) (outer : List PySem.Env) (s : Shared) (H : Hp) (E : XK), Cok k (cxOf CX0 P w K mg base N qual scope f (.ref c0) A outer s H E).nox →
      PSs (cxOf CX0 P w K mg base N qual scope f (.ref c0) A outer s H E).nox body (tS K W m)) : DefOk P w K mg base (k + 1) x ps.length (runF ps.length N.length W m) := by
  refine ⟨f, fd, ps, rfl, ?_, hm, F.kp, F.bindsN hba⟩
  obtain ⟨oc, od, dV, kV, doc, pm, an, cdv, ct, osl, e, lk, hcode, _, _⟩ := F.ex
  subst e
  have e : cdv = .ref c0 := hcd
  subst e
  refine fn_of lk hcode S (fun vs H Q E h => h.1) fun A outer s H vs Q E hr h => ⟨tS K W m, (hb A outer s H E ⟨rfl, hr, S.nd⟩).nox, run_of rfl ?_ h⟩
  have := congrArg List.length S.pre
  rw [List.length_take] at this
  omega
/-- the law's start: the script, the tables -/
theorem start_law {F : FS} {H : Hp} {a : Addr} {ns : List Int} {Q : VK} {E : XK} (hK : ∀ b o, K.lookup b = some o → o.cls ≠ .type "list") (hS : SqL K H a (ns.map V.int)) (hT : LamX.Tabs TabsC.tabs H)
    (hF : ∃ args', F [.d (.list (ns.map PyData.int))] = some (.d (.bool true), args')) (hQ : ∀ H', Q (.bl true) H') : spF K 1 F [.ref a] H Q E := by
  obtain ⟨args', hF⟩ := hF
  have hR : Rd H a (.lst (ns.map V.int)) := by
    rcases hS with h | ⟨o, its, n, h1, h2, _⟩
    · exact h
    · exact absurd h2 (hK _ _ h1)
  refine ⟨rfl, fun b => if b = a then H a else none, [.d (.list (ns.map PyData.int))], fun _ => [], _, args', ?_, hF, fun v fp Hf' H' ⟨f', R'⟩ => ?_⟩
  · have sub : Ex (fun b => if b = a then H a else none) H := fun b u q => by
      simp only at q
      by_cases e : b = a
      · rw [if_pos e] at q; rw [e]; exact q
      · rw [if_neg e] at q; cases q
    have hd : Dens K (fun b => if b = a then H a else none) (ns.map V.int) (ns.map PyData.int) := by
      generalize (fun b => if b = a then H a else none) = G
      clear hF hR sub hS
      induction ns with
      | nil => exact .nil
      | cons n r ih => exact .cons (.int n) ih
    have hv : Den K (fun b => if b = a then H a else none) (.ref a) (.list (ns.map PyData.int)) := by
      refine .lst ?_ hd
      rcases hR with h | ⟨o, h⟩
      · exact .inl ((if_pos rfl).trans h)
      · exact .inr ⟨o, (if_pos rfl).trans h⟩
    refine ⟨rfl, sub, fun i g e => ?_, fun i e => rfl, by simp, by simp, by simp, by simp, Evl.Ex.refl _, fun _ _ h _ _ => h, fun _ o h n => ⟨o, h, n⟩, fun _ h => .inl h, by simp, by simp, fun b o q => ?_, hT⟩
    rotate_left
    · by_cases e : b = a
      · rw [if_pos e] at q
        rcases hR with h | ⟨o', h⟩ <;> rw [h] at q <;> cases q <;> exact fun ps z => by cases z
      · rw [if_neg e] at q; cases q
    · cases i with
      | zero => cases e; exact ⟨rfl, _, rfl, hv⟩
      | succ i => simp at e
  · have q := (R'.pend _ List.mem_cons_self).2
    cases q
    exact hQ H'
end
end DL

set_option Elab.async false
set_option linter.all false
set_option maxRecDepth 100000
set_option maxHeartbeats 4000000
namespace DL
open PySem L2
section
variable [TabsC] {P : Program} {w : World} {K : PySem.W.Frag} {mg : Str → Option Value} {base : Heap}
theorem okMF {x qual : Str} {params : Arguments} {body : List Stmt} {scope : Scope} {f : Addr} {fd : FuncData} {N ps : List Str} {k : Nat} {W : List Nat} {m : MS} (F : L2.FunD K x qual params body scope [] [] f fd) (S : FnScope N ps scope)
    (hb : ∀ (cdv : Value) (A : Around) (outer : List PySem.Env) (s : Shared) (H : Hp) (E : XK), Cok k (cxOf CX0 P w K mg base N qual scope f cdv A outer s H E).nox →
      PSs (cxOf CX0 P w K mg base N qual scope f cdv A outer s H E).nox body (tS K W m)) : FnOk P w K mg base CX0 (k + 1) f fd ps (spF K ps.length (runF ps.length N.length W m)) := by
  refine F.ok S (fun vs H Q E h => h.1) fun cdv A outer s H vs Q E hr h => ⟨tS K W m, (hb cdv A outer s H E ⟨rfl, hr, S.nd⟩).nox, run_of rfl ?_ h⟩
  have := congrArg List.length S.pre
  rw [List.length_take] at this
  omega
end
section
variable {K : PySem.W.Frag}
theorem code_of {x qual : Str} {params : Arguments} {body : List Stmt} {scope : Scope} {fd : FuncData} {p : He.Defn} (F : L2.FunD K x qual params body scope [] [] (He.fAd K p) fd) : fd.code = .ref (He.codeOf K p) := by
  obtain ⟨oc, od, dV, kV, doc, pm, an, cdv, ct, osl, e, lk, hc, _, _⟩ := F.ex
  subst e
  obtain ⟨c, rfl⟩ := He.codeIn_ref hc
  rw [He.codeOf_eq lk rfl]
theorem tabs_nil {T : List (Addr × Str)} {H : Hp} (h : ∀ p ∈ T, H p.1 = some (.tbl #[])) : LamX.Tabs T H := fun p hp => LamX.TabS.nil (h p hp)
theorem no_lists {K : PySem.W.Frag} (h : (K.all fun q => !(q.2.cls == .type "list")) = true) : ∀ b o, K.lookup b = some o → o.cls ≠ .type "list" := fun b o e => by
  have := List.all_eq_true.mp h _ (He.lookup_mem e)
  simpa using this
end
end DL

set_option Elab.async false
set_option linter.all false
set_option maxRecDepth 100000
set_option maxHeartbeats 4000000
namespace DL
open PySem L2
variable [TabsC]
/-! ### dicts of the frame whose keys are tuples -/
section
variable {K : PySem.W.Frag} {H : Hp}
def keysOf : List Dat → Option (List Key)
  | [] => some []
  | d :: r => (keyOfD d).bind fun k => (keysOf r).bind fun l => some (k :: l)
omit [TabsC] in
theorem keysOf_some : ∀ {l : List Dat} {ks : List Key}, keysOf l = some ks → l = ks.map keyD
  | [], _, h => by cases h; rfl
  | d :: r, _, h => by
    obtain ⟨k, e1, h⟩ := Option.bind_eq_some_iff.mp h
    obtain ⟨l, e2, h⟩ := Option.bind_eq_some_iff.mp h
    cases h
    rw [keysOf_some e2, List.map_cons, keyOfD_some e1]
omit [TabsC] in
theorem dens_keys : ∀ {ks : List Key} {vs : List V}, Dens K H vs (ks.map keyD) → vs = ks.map kV
  | [], _, h => by cases h; rfl
  | k :: r, _, h => by
    cases h with
    | cons a b => rw [kV_key rfl a, dens_keys b, List.map_cons]
omit [TabsC] in
theorem den_key {ks : List Key} {v : V} (h : Den K H v (.tuple (ks.map keyD))) : ∃ b, v = .ref b ∧ H b = some (.tup (ks.map kV)) := by
  cases h with
  | tup a b => rw [dens_keys b] at a; exact ⟨_, rfl, a⟩
def findT {α : Type} (l : List (List Key × α)) (k : List Key) : Option α := (l.find? fun p => decide (p.1 = k)).map (·.2)
/-- what is told of a key -/
inductive RelOD (K : PySem.W.Frag) (H : Hp) : Option V → Option Dat → Prop
  | none : RelOD K H none none
  | some {v : V} {d : Dat} : Den K H v d → RelOD K H (some v) (some d)
omit [TabsC] in
theorem keyD_inj : ∀ {j k : Key}, keyD j = keyD k → j = k
  | .inl _, .inl _, h => by cases h; rfl
  | .inr _, .inr _, h => by cases h; rfl
  | .inl _, .inr _, h => by cases h
  | .inr _, .inl _, h => by cases h
omit [TabsC] in
theorem keysD_inj : ∀ {j k : List Key}, j.map keyD = k.map keyD → j = k
  | [], [], _ => rfl
  | [], _ :: _, h => by cases h
  | _ :: _, [], h => by cases h
  | a :: r, b :: s, h => by
    rw [List.map_cons, List.map_cons, List.cons.injEq] at h
    rw [keyD_inj h.1, keysD_inj h.2]
omit [TabsC] in
theorem denT_keys : ∀ {l : List (List Key × Dat)} {kvs : List (List Key × V)}, DenT K H kvs (datT l) → kvs.map (·.1) = l.map (·.1)
  | [], _, h => by cases h; rfl
  | p :: r, kvs, h => by
    have h' : DenT K H kvs ((.tuple (p.1.map keyD), p.2) :: datT r) := h
    generalize he : PyData.tuple (p.1.map keyD) = kk at h'
    cases h' with
    | @cons k v _ d _ a b =>
      have : p.1 = k := keysD_inj (PyData.tuple.inj he)
      rw [List.map_cons, List.map_cons, denT_keys b, ← this]
omit [TabsC] in
theorem denT_uncons {p : List Key × Dat} {r : List (List Key × Dat)} {kvs : List (List Key × V)} (h : DenT K H kvs (datT (p :: r))) : ∃ v s, kvs = (p.1, v) :: s ∧ Den K H v p.2 ∧ DenT K H s (datT r) := by
  have h' : DenT K H kvs ((.tuple (p.1.map keyD), p.2) :: datT r) := h
  generalize he : PyData.tuple (p.1.map keyD) = kk at h'
  cases h' with
  | @cons k v s d _ a b =>
    have : p.1 = k := keysD_inj (PyData.tuple.inj he)
    subst this
    exact ⟨v, s, rfl, a, b⟩
omit [TabsC] in
theorem denT_find {k : List Key} : ∀ {l : List (List Key × Dat)} {kvs : List (List Key × V)}, DenT K H kvs (datT l) → RelOD K H (valV kvs k) (findT l k)
  | [], _, h => by cases h; exact .none
  | p :: r, kvs, h => by
    obtain ⟨v, s, rfl, a, b⟩ := denT_uncons h
    by_cases e : p.1 = k
    · rw [valV_pos (p := (p.1, v)) e]
      have : findT (p :: r) k = some p.2 := by simp [findT, e]
      rw [this]
      exact .some a
    · rw [valV_neg (p := (p.1, v)) e]
      have : findT (p :: r) k = findT r k := by simp [findT, e]
      rw [this]
      exact denT_find b
def putT {α : Type} : List (List Key × α) → List Key → α → List (List Key × α)
  | [], k, d => [(k, d)]
  | p :: r, k, d => if p.1 = k then (k, d) :: r else p :: putT r k d
omit [TabsC] in
theorem putT_keys {α : Type} {k x : List Key} {d : α} : ∀ {l : List (List Key × α)}, x ∈ (putT l k d).map (·.1) ↔ x = k ∨ x ∈ l.map (·.1)
  | [] => by simp [putT]
  | p :: r => by
    have ih := putT_keys (k := k) (x := x) (d := d) (l := r)
    rw [putT]
    by_cases e : p.1 = k
    · rw [if_pos e]; simp [e]
    · rw [if_neg e, List.map_cons, List.mem_cons, ih, List.map_cons, List.mem_cons, or_left_comm]
omit [TabsC] in
theorem putT_nodup {α : Type} {k : List Key} {d : α} : ∀ {l : List (List Key × α)}, (l.map (·.1)).Nodup → ((putT l k d).map (·.1)).Nodup
  | [], _ => by simp [putT]
  | p :: r, nd => by
    rw [List.map_cons, List.nodup_cons] at nd
    rw [putT]
    by_cases e : p.1 = k
    · rw [if_pos e, List.map_cons, List.nodup_cons, ← e]; exact nd
    · rw [if_neg e, List.map_cons, List.nodup_cons]
      refine ⟨fun z => ?_, putT_nodup nd.2⟩
      rcases putT_keys.mp z with z | z
      · exact e z
      · exact nd.1 z
omit [TabsC] in
theorem putT_len {α : Type} {k : List Key} {d : α} : ∀ {l : List (List Key × α)}, (putT l k d).length ≤ l.length + 1
  | [] => by simp [putT]
  | p :: r => by
    have := putT_len (k := k) (d := d) (l := r)
    rw [putT]
    split
    · simp
    · rw [List.length_cons, List.length_cons]; omega
omit [TabsC] in
theorem putV_cons {p : List Key × V} {r : List (List Key × V)} {k : List Key} {v : V} (nd : ((p :: r).map (·.1)).Nodup) : putK (p :: r) k v = if p.1 = k then (k, v) :: r else p :: putK r k v := by
  rw [List.map_cons, List.nodup_cons] at nd
  by_cases h : p.1 = k
  · have e1 : ((p :: r).any fun kv => decide (kv.1 = k)) = true := by simp [h]
    unfold putK
    rw [if_pos e1, if_pos h, List.map_cons, if_pos h, h]
    congr 1
    have : r.map (fun kv => if kv.1 = k then (kv.1, v) else kv) = r.map id := List.map_congr_left fun z hz => by
      rw [if_neg fun e => nd.1 (by rw [h, ← e]; exact List.mem_map.mpr ⟨z, hz, rfl⟩)]
      rfl
    rw [this, List.map_id]
  · rw [if_neg h]
    unfold putK
    cases q : (r.any fun kv => decide (kv.1 = k)) with
    | true => rw [if_pos (by simp [h, q]), if_pos rfl, List.map_cons, if_neg h]
    | false => rw [if_neg (by simp [h, q]), if_neg (by simp), List.cons_append]
omit [TabsC] in
theorem DenT.put {k : List Key} {v : V} {d : Dat} (q : Den K H v d) : ∀ {l : List (List Key × Dat)} {kvs : List (List Key × V)}, DenT K H kvs (datT l) → (l.map (·.1)).Nodup → DenT K H (putK kvs k v) (datT (putT l k d))
  | [], _, h, _ => by cases h; exact .cons q .nil
  | p :: r, kvs, h, nd => by
    have ks := denT_keys h
    obtain ⟨w, s, rfl, a, b⟩ := denT_uncons h
    have nd' : (((p.1, w) :: s).map (·.1)).Nodup := by rw [ks]; exact nd
    rw [putV_cons nd', putT]
    rw [List.map_cons, List.nodup_cons] at nd
    by_cases e : p.1 = k
    · rw [if_pos e, if_pos e]
      exact .cons q b
    · rw [if_neg e, if_neg e]
      exact .cons a (DenT.put q b nd.2)
end
section
variable {X : Cx} {K : PySem.W.Frag} {a b c e o : Expr} {ma mb mc me mk mx mv : M} {pos cpos apos sp : Pos} {k n : Nat}
theorem own_tdct {B : Base} {Hf H : Hp} {σ : St} {Γ : Env} {f : Nat → List Addr} {ps : List Pend} {i : Nat} {l : List (List Key × Dat)} {v : V} (R : ReachF K B Hf H σ Γ f ps) (hi : Γ[i]? = some (.own (.tdct l))) (hv : σ[i]? = some (some v)) :
    ∃ p kvs, v = .ref p ∧ f i = [p] ∧ Hf p = none ∧ H p = some (.dT kvs) ∧ DenT K Hf kvs (datT l) := by
  obtain ⟨a, e1, e2, e3, xs, e4, e5⟩ := R.slot i _ hi
  rw [hv] at e1
  cases e1
  exact ⟨a, xs, rfl, e2, e3, e4, e5⟩
theorem writeT {B : Base} {Hf H : Hp} {σ : St} {Γ : Env} {f : Nat → List Addr} {ps : List Pend} {i : Nat} {l l' : List (List Key × Dat)} {p : Addr} {kvs : List (List Key × V)} (R : ReachF K B Hf H σ Γ f ps) (hi : Γ[i]? = some (.own (.tdct l))) (hv : σ[i]? = some (some (.ref p)))
    (d : DenT K Hf kvs (datT l')) : ReachF K B Hf (upd H p (.dT kvs)) σ (Γ.set i (.own (.tdct l'))) f ps := by
  obtain ⟨q, xs, e1, e2, e3, e4, e5⟩ := own_tdct R hi hv
  cases e1
  exact R.writeS hi hv ⟨rfl, e3, kvs, upd_same, d⟩ e2
/-- {} -/
def mDictT : M := fun Γ => some (.own (.tdct []), Γ)
theorem ReachF.newDT {B : Base} {Hf H : Hp} {σ : St} {Γ : Env} {f : Nat → List Addr} {ps : List Pend} {p : Addr} {kvs : List (List Key × V)} {l : List (List Key × Dat)} (R : ReachF K B Hf H σ Γ f ps) (h : H p = none) (d : DenT K Hf kvs (datT l)) :
    ReachF K B Hf (upd H p (.dT kvs)) σ Γ f (⟨.ref p, .own (.tdct l), [p]⟩ :: ps) := by
  obtain ⟨f1, f2, f3⟩ := R.fresh h
  refine (R.alloc h).push ⟨p, rfl, rfl, Evl.fresh_back R.sub h, kvs, upd_same, d⟩ (fun a ha => ?_) (fun a ha => ?_)
  · obtain rfl : a = p := by simpa using ha
    exact ⟨f1, f2⟩
  · obtain rfl : a = p := by simpa using ha
    exact .inl f3
theorem d_dictT : PE X (.Dict [] [] pos) (tM X.K mDictT) := PE.imp pe_dnewT fun σ H Q h => by
  obtain ⟨B, Hf, Γ, ps, r, Γ', ⟨f, R⟩, e, kk⟩ := h
  cases e
  exact fun p hp => kk _ _ _ _ ⟨f, R.newDT hp .nil⟩
/-- d.get(k, x) -/
def mGetT (i : Nat) (mk mx : M) : M := fun Γ => match Γ[i]? with
  | some (.own (.tdct _)) => (mk Γ).bind fun p => match p.1 with
    | .d (.tuple ks) => (mx p.2).bind fun q => match q.1, q.2[i]? with
      | .d x, some (.own (.tdct l)) => (keysOf ks).bind fun kk => some (.d ((findT l kk).getD x), q.2)
      | _, _ => none
    | _ => none
  | _ => none
theorem d_getT (i : Nat) {x : Str} {np ap : Pos} (c : Cok k X) (ho : PE X (.Name x np) (tM X.K (mVar i))) (ha : PE X a (tM X.K mk)) (hb : PE X b (tM X.K mx)) (m : M2 X (.Name x np) "get" ap a b cpos := by exact ⟨rfl, rfl, rfl, rfl⟩) :
    PE X (.Call (.Attribute (.Name x np) "get" ap) [a, b] [] cpos) (tM X.K (mGetT i mk mx)) := PE.imp (pe_dget2 (by have := c.hu; omega) ho ha hb m) fun σ H Q h => by
  obtain ⟨B, Hf, Γ, ps, r, Γ', ⟨f, R⟩, ee, kk⟩ := h
  unfold mGetT at ee
  split at ee
  · rename_i l0 hl0
    obtain ⟨⟨s1, Γ1⟩, e1, ee⟩ := bindE ee
    simp only at ee
    split at ee
    · rename_i ks
      obtain ⟨⟨s2, Γ2⟩, e2, ee⟩ := bindE ee
      simp only at ee
      split at ee
      · rename_i xd l hl
        obtain ⟨kys, e3, ee⟩ := bindE ee
        cases ee
        refine ⟨B, Hf, Γ, ps, .bor i, Γ, ⟨f, R⟩, by simp only [mVar, hl0], fun w fp2 Hf3 H3 ⟨f3, R3⟩ => ?_⟩
        have q2 := (R3.pend _ List.mem_cons_self).2
        simp only at q2
        obtain ⟨p, kvs, rfl, h2, h3, h4, h5⟩ := own_tdct R3 hl0 q2
        refine ⟨p, rfl, .inr ⟨kvs, Rd.of h4⟩, B, Hf3, Γ, _, _, Γ1, ⟨f3, R3⟩, e1, fun y fp Hf4 H4 R4 => ⟨B, Hf4, Γ1, _, _, _, R4, e2, fun z fp5 Hf5 H5 ⟨f5, R5⟩ => ?_⟩⟩
        have dz := (R5.pend _ List.mem_cons_self).2
        have dy := (R5.pop.pend _ List.mem_cons_self).2
        simp only at dz dy
        rw [keysOf_some e3] at dy
        obtain ⟨b', rfl, hb'⟩ := den_key dy
        obtain ⟨p', kvs', e7, h2', h3', h4', h5'⟩ := own_tdct R5 hl q2
        cases e7
        refine ⟨_, .inr ⟨kvs', kys, b', Rd.of h4', rfl, R5.sub _ _ hb', rfl⟩, kk _ [] Hf5 H5 ⟨f5, R5.pop.pop.pop.pushD ?_⟩⟩
        have rel := denT_find (k := kys) h5'
        generalize valV kvs' kys = ov at rel ⊢
        generalize findT l kys = od at rel ⊢
        cases rel with
        | none => exact dz
        | some h => exact h
      · cases ee
    · cases ee
  · cases ee
/-- d[k] = v -/
def mPutT (i : Nat) (mk mv : M) : MS := fun Γ => (mv Γ).bind fun p => (settle p.2 p.1).bind fun q => match q.2[i]? with
  | some (.own (.tdct _)) => (mk q.2).bind fun t => match t.1, t.2[i]? with
    | .d (.tuple ks), some (.own (.tdct l)) => (keysOf ks).bind fun kk => if (l.map (·.1)).Nodup ∧ l.length < lim then some (.nx, t.2.set i (.own (.tdct (putT l kk q.1)))) else none
    | _, _ => none
  | _ => none
theorem ds_putT (i : Nat) {x : Str} {np : Pos} (c : Cok k X) (hv : PE X e (tM X.K mv)) (ho : PE X (.Name x np) (tM X.K (mVar i))) (hi : PE X a (tM X.K mk)) (hs : swapsWith e (some (.Subscript (.Name x np) a sp)) pos.line X.env = pure false := by rfl) :
    PS X (.Assign [.Subscript (.Name x np) a sp] e pos) (tS X.K [] (mPutT i mk mv)) := PS.imp (ps_dput (by have := c.hu; omega) ho hi hv hs) fun D σ H h => by
  obtain ⟨B, Hf, Γ, fl, Γ', R, ee, kk⟩ := h
  obtain ⟨⟨s1, Γ1⟩, e1, ee⟩ := bindE ee
  obtain ⟨⟨d, Γ2⟩, e2, ee⟩ := bindE ee
  simp only at ee
  split at ee
  · rename_i o ho'
    obtain ⟨⟨s3, Γ3⟩, e3, ee⟩ := bindE ee
    simp only at ee
    split at ee
    · rename_i ks l hl
      obtain ⟨kys, e4, ee⟩ := bindE ee
      split at ee
      · rename_i hc
        cases ee
        refine ⟨B, Hf, Γ, [], s1, Γ1, R, e1, fun v fp Hf1 H1 R1 => ?_⟩
        obtain ⟨Hf2, _, R2⟩ := R1.settle e2
        refine ⟨B, Hf2, Γ2, _, .bor i, Γ2, R2, by simp only [mVar, ho'], fun w fp2 Hf3 H3 R3 => ⟨B, Hf3, Γ2, _, _, Γ3, R3, e3, fun u fp3 Hf4 H4 ⟨f4, R4⟩ => ?_⟩⟩
        have q3 := (R4.pend _ List.mem_cons_self).2
        have q2 := (R4.pop.pend _ List.mem_cons_self).2
        have q1 := (R4.pop.pop.pend _ List.mem_cons_self).2
        simp only at q3 q2 q1
        rw [keysOf_some e4] at q3
        obtain ⟨b', rfl, hb'⟩ := den_key q3
        obtain ⟨p, kvs, rfl, h2, h3, h4, h5⟩ := own_tdct R4 hl q2
        have hlen : kvs.length = l.length := by
          have := congrArg List.length (denT_keys h5)
          simpa using this
        refine ⟨p, _, rfl, .inr ⟨kvs, kys, b', h4, rfl, R4.sub _ _ hb', by rw [hlen]; exact Nat.lt_of_lt_of_le hc.2 lim_le, rfl⟩, ?_⟩
        exact kk σ Hf4 _ (Stay.refl _ _) ⟨f4, (writeT R4 hl q2 (h5.put q1 hc.1)).pop.pop.pop⟩
      · cases ee
    · cases ee
  · cases ee
end
end DL

set_option Elab.async false
set_option linter.all false
set_option maxRecDepth 100000
set_option maxHeartbeats 4000000
namespace L2
open PySem PySem.Spec PyProof.Rows
/-! ### walks of a dict whose keys are tuples; it stays locked behind -/
/-- the i-th key's own tuple -/
def qOf (od : Obj) (i : Nat) : Option Addr := match od.data with
  | .dict es _ => (es[i]?).bind fun en => match en.key with
    | .ref q => some q
    | _ => none
  | _ => none
def KeysAt (H : Hp) (od : Obj) (kvs : List (List Key × V)) : Prop := ∀ (i : Nat) (k : List Key) (v : V), kvs[i]? = some (k, v) → ∃ q, qOf od i = some q ∧ H q = some (.tup (k.map kV))
abbrev LkT (H : Hp) (d : Addr) (od : Obj) (kvs : List (List Key × V)) : Prop := H d = some (.frz od (.dT kvs))
/-- pairs, each a new tuple of the key's own tuple and the value -/
def ItT (d : Addr) (od : Obj) (kvs : List (List Key × V)) : It where
  go i H := LkT H d od kvs ∧ i < kvs.length
  yld i H x H' := ∃ T k v q, kvs[i]? = some (k, v) ∧ qOf od i = some q ∧ x = .ref T ∧ H T = none ∧ H' = upd H T (.tup [.ref q, v])
  stop i H := LkT H d od kvs ∧ kvs.length ≤ i
def ItTv (d : Addr) (od : Obj) (kvs : List (List Key × V)) : It where
  go i H := LkT H d od kvs ∧ i < kvs.length
  yld i H x H' := H' = H ∧ ∃ k, kvs[i]? = some (k, x)
  stop i H := LkT H d od kvs ∧ kvs.length ≤ i
section
variable {X : Cx} {pins : List (Addr × Obj)} {σ : St} {H : Hp} {s : Shared} {d : Addr} {od : Obj} {kvs : List (List Key × V)}
theorem lkT_raw (I : Inv X pins σ H s) (h : LkT H d od kvs) : (d == sysModules) = false ∧ ∃ (es : Array DictEntry) (ep : Nat), od.data = .dict es ep ∧ s.heap.DictRaw d es ep ∧ es.size = kvs.length ∧
    ∀ (i : Nat) (k : List Key) (v : V), kvs[i]? = some (k, v) → ∃ (en : DictEntry) (q : Addr), es[i]? = some en ∧ en.key = .ref q ∧ H q = some (.tup (k.map kV)) ∧ RelV v en.val := by
  obtain ⟨g, _, ns, ms, rel, o2, es, ep, g2, x2, dt, en, _⟩ := I.hok d _ h
  rw [g] at g2
  cases g2
  refine ⟨ns, es, ep, dt, ⟨od, g, x2, dt⟩, ?_, fun i k v e => ?_⟩
  · have l1 := size_of_entries en
    have l2 := Paired.length rel
    omega
  · obtain ⟨z, hz, _, e2, e3⟩ := paired_get rel e
    have at' := entry_at en i
    rw [hz] at at'
    exact ⟨_, z.2.1, at', rfl, e2, e3⟩
theorem lkT_keys (I : Inv X pins σ H s) (h : LkT H d od kvs) : KeysAt H od kvs := fun i k v e => by
  obtain ⟨_, es, ep, dt, _, _, ent⟩ := lkT_raw I h
  obtain ⟨en, q, e1, e2, e3, _⟩ := ent i k v e
  refine ⟨q, ?_, e3⟩
  unfold qOf
  rw [dt]
  simp only [e1, Option.bind_some, e2]
theorem sameD {es es2 : Array DictEntry} {ep ep2 : Nat} (a : od.data = .dict es ep) (b : od.data = .dict es2 ep2) : es = es2 ∧ ep = ep2 := by
  rw [a] at b
  cases b
  exact ⟨rfl, rfl⟩
end
section
variable {P : Program} {w : World} {K : PySem.W.Frag} {d : Addr} {od : Obj} {es : Array DictEntry} {ep : Nat} {kvs : List (List Key × V)}
theorem turnT {elts : List Expr} {j : Nat} {tp : Pos} (it : Addr) (dt : od.data = .dict es ep) (hsz : es.size = kvs.length) :
    Turn P w K (.Tuple elts j tp) (ItT d od kvs) [it] it (fun i h => ∃ x y, IsItemIter h it d i es.size ep x y) where
  mem := List.mem_singleton.mpr rfl
  obj := fun i h ⟨x, y, q⟩ b hb => by
    rw [List.mem_singleton.mp hb]
    exact ⟨_, q, fun v z => by cases z⟩
  keep := fun i h h' ⟨x, y, q⟩ kp => ⟨x, y, kp it (List.mem_singleton.mpr rfl) _ q⟩
  item := by
    intro X eP ew eK calm i pins s σ H E I own ⟨x, y, q⟩ ⟨lk, lt⟩
    subst eP ew eK
    obtain ⟨_, es2, ep2, dt2, raw, _, ent⟩ := lkT_raw I lk
    obtain ⟨rfl, rfl⟩ := sameD dt dt2
    have e0 : kvs[i]? = some (kvs[i].1, kvs[i].2) := List.getElem?_eq_getElem lt
    obtain ⟨en, kq, e1, e2, e3, e4⟩ := ent i _ _ e0
    have lt2 : i < es.size := by omega
    have hen : es[i] = en := by rw [Array.getElem?_eq_getElem lt2] at e1; exact Option.some.inj e1
    have below : it < s.heap.objs.size := Heap.lt_size q
    refine wpAny_pyNext_items_item_raw q raw lt2 fun h1 out tup sz kp => ?_
    rw [hen] at out tup
    rw [e2] at out tup
    refine ⟨_, rfl, wpAny_letOwnedTupleGo_items (s := { s with heap := h1 }) out fun h2 out2 sb => ?_⟩
    have tup2 := (sb.2 _ (Nat.ne_of_gt below)).trans tup
    have fresh := I.hok.fresh (Nat.le_refl s.heap.objs.size)
    have laid : ObjOk X.prog X.w (upd H s.heap.objs.size (.tup [.ref kq, kvs[i].2])) h2 s.heap.objs.size (.tup [.ref kq, kvs[i].2]) :=
      ⟨by show 2 ≤ sizeLine; decide, [.ref kq, en.val], .cons rfl (.cons e4 .nil), ⟨_, tup2, rfl, _, rfl⟩⟩
    have J : Inv X pins σ (upd H s.heap.objs.size (.tup [.ref kq, kvs[i].2])) { s with heap := h2 } :=
      I.turnedNew (t' := s.toks) (ch := [it]) (fun b u hb z => (sb.2 b fun y => hb (List.mem_singleton.mpr y)).trans (kp b u (fun y => hb (List.mem_singleton.mpr y)) z)) own (Nat.le_refl _) laid
    refine ⟨.ref s.heap.objs.size, _, J, rfl, ⟨_, _, _, kq, e0, ?_, rfl, fresh, rfl⟩, ⟨_, _, out2⟩, fun b hb => ?_⟩
    · unfold qOf
      rw [dt]
      simp only [e1, Option.bind_some, e2]
    · rw [List.mem_singleton.mp hb, upd_ne (Nat.ne_of_lt below)]
      exact (own it (List.mem_singleton.mpr rfl)).1
  done := by
    intro X eP ew eK calm i pins s σ H E I own ⟨x, y, q⟩ ⟨lk, ge⟩
    subst eP ew eK
    obtain ⟨a0, a1, a2, a3, a4, a5⟩ := own it (List.mem_singleton.mpr rfl)
    obtain ⟨_, es2, ep2, dt2, raw, _, _⟩ := lkT_raw I lk
    obtain ⟨rfl, rfl⟩ := sameD dt dt2
    exact wpAny_pyNext_items_end_raw (I.ok.hd calm) q raw (by omega) fun h1 eb =>
      ⟨rfl, I.turned (t' := s.toks) (fun b u hb z => eb b u hb z) a0 a1 a3 a4 a5⟩
  self := fun A i s Q E ⟨x, y, q⟩ h => wpAny_pyIter_itemiter q h
theorem turnTv {tg : Expr} (it : Addr) (dt : od.data = .dict es ep) (hsz : es.size = kvs.length) : Turn P w K tg (ItTv d od kvs) [it] it (fun i h => h.IsValIter it d i es.size ep) where
  mem := List.mem_singleton.mpr rfl
  obj := fun i h ⟨o, q, _, dd⟩ b hb => by
    rw [List.mem_singleton.mp hb]
    exact ⟨o, q, fun v z => by rw [dd] at z; cases z⟩
  keep := fun i h h' st kp => st.at fun o q => kp it (List.mem_singleton.mpr rfl) o q
  item := by
    intro X eP ew eK calm i pins s σ H E I own q ⟨lk, lt⟩
    subst eP ew eK
    obtain ⟨a0, a1, a2, a3, a4, a5⟩ := own it (List.mem_singleton.mpr rfl)
    obtain ⟨_, es2, ep2, dt2, raw, _, ent⟩ := lkT_raw I lk
    obtain ⟨rfl, rfl⟩ := sameD dt dt2
    have e0 : kvs[i]? = some (kvs[i].1, kvs[i].2) := List.getElem?_eq_getElem lt
    obtain ⟨en, kq, e1, e2, e3, e4⟩ := ent i _ _ e0
    have lt2 : i < es.size := by omega
    have hen : es[i] = en := by rw [Array.getElem?_eq_getElem lt2] at e1; exact Option.some.inj e1
    refine wpAny_pyNext_values_item_raw q raw lt2 fun h1 q1 sb => ?_
    have J : Inv X pins σ H { s with heap := h1 } := I.turned (t' := s.toks) (fun b u hb z => (sb.2 b hb).trans z) a0 a1 a3 a4 a5
    obtain ⟨o1, g1, c1, d1⟩ := id q1
    rw [hen]
    exact ⟨en.val, rfl, go_of (s := { s with heap := h1 }) g1 c1 d1 (by decide) ⟨kvs[i].2, H, J, e4, ⟨rfl, _, e0⟩, q1, fun b hb => (own b hb).1⟩⟩
  done := by
    intro X eP ew eK calm i pins s σ H E I own q ⟨lk, ge⟩
    subst eP ew eK
    obtain ⟨a0, a1, a2, a3, a4, a5⟩ := own it (List.mem_singleton.mpr rfl)
    obtain ⟨_, es2, ep2, dt2, raw, _, _⟩ := lkT_raw I lk
    obtain ⟨rfl, rfl⟩ := sameD dt dt2
    exact wpAny_pyNext_values_end_raw (I.ok.hd calm) q raw (by omega) fun h1 eb =>
      ⟨rfl, I.turned (t' := s.toks) (fun b u hb z => eb b u hb z) a0 a1 a3 a4 a5⟩
  self := fun A i s Q E st h => wpAny_pyIter_valiter st h
end
/-- the dict is locked from here on -/
def iDT (J : Addr → Obj → List (List Key × V) → It) (td : TE) : TI := fun σ H R => td σ H fun x H1 => ∃ d kvs, x = .ref d ∧ H1 d = some (.dT kvs) ∧
  ∀ od, KeysAt (upd H1 d (.frz od (.dT kvs))) od kvs → R (J d od kvs) (upd H1 d (.frz od (.dT kvs)))
section
variable {X : Cx} {e tg : Expr} {td : TE} {ap cp : Pos}
theorem pi_itemsT {elts : List Expr} {j : Nat} {tp : Pos} (he : PE X e td) (hb : attributeBase e "items" X.env (eval e X.env) = eval e X.env := by rfl) (hl : (ap.endLine == cp.line) = true := by rfl) :
    PI X (.Tuple elts j tp) (.Call (.Attribute e "items" ap) [] [] cp) (iDT ItT td) := by
  refine ⟨fun pins s σ H R I h => wpAny_Call_method (T := "dict") (id := "dict.items") hb rfl hl F.plainAttrs_dict F.slot_dict_items F.type_dict_items
    (thn (he.run pins s σ H _ I h) fun u s1 ⟨x, H1, I1, rx, d, kvs, ex, hd, q⟩ => ?_)⟩
  subst ex
  cases (show u = Value.ref d from rx)
  obtain ⟨od, I2⟩ := I1.lock hd True.intro
  have lk : LkT (upd H1 d (.frz od (.dT kvs))) d od kvs := upd_same
  obtain ⟨nm, es, ep, dt, raw, sz, _⟩ := lkT_raw I2 lk
  have fin : wpAny (model X.prog X.w) X.A (pyIter (.ref s1.heap.objs.size)) (PIE X pins σ (.Tuple elts j tp) R) X.xe { s1 with heap := s1.heap.push { cls := .type "dict_items", data := .fields #[.ref d] } } :=
    wpAny_pyIter_items_raw (d := d) ⟨_, Heap.get?_push_size _ rfl, rfl, rfl⟩ (raw.at fun o z => Heap.get?_push_of_some _ z)
      (pi_one (tk := s1.toks) (I2.kept (t' := s1.toks) fun b o z => Heap.get?_push_of_some _ z) _ (turnT _ dt sz) ⟨.none, .none, Heap.get?_push_size _ rfl⟩ (q od (lkT_keys I2 lk)))
  refine ⟨raw.typeIs, fun b z => ?_, ?_⟩
  · cases z
    obtain ⟨o, g, x2, _⟩ := raw
    exact ⟨o, g, x2.2.1⟩
  · show wpAny _ _ (callWith cp (.builtin "dict.items") [.ref d] [] []) _ X.xe s1
    exact method_meetsIn F.slot_dict_items F.entry_dict_items rfl
      (PySem.evalArgs_none ⟨rfl, raw.typeIs, F.args_dict_items_1 _, _, meets_dict_items_raw d nm, ⟨es, ep, raw⟩, fin⟩)
theorem pi_valuesT (he : PE X e td) (hb : attributeBase e "values" X.env (eval e X.env) = eval e X.env := by rfl) (hl : (ap.endLine == cp.line) = true := by rfl) :
    PI X tg (.Call (.Attribute e "values" ap) [] [] cp) (iDT ItTv td) := by
  refine ⟨fun pins s σ H R I h => wpAny_Call_method (T := "dict") (id := "dict.values") hb rfl hl F.plainAttrs_dict F.slot_dict_values F.type_dict_values
    (thn (he.run pins s σ H _ I h) fun u s1 ⟨x, H1, I1, rx, d, kvs, ex, hd, q⟩ => ?_)⟩
  subst ex
  cases (show u = Value.ref d from rx)
  obtain ⟨od, I2⟩ := I1.lock hd True.intro
  have lk : LkT (upd H1 d (.frz od (.dT kvs))) d od kvs := upd_same
  obtain ⟨nm, es, ep, dt, raw, sz, _⟩ := lkT_raw I2 lk
  have fin : wpAny (model X.prog X.w) X.A (pyIter (.ref s1.heap.objs.size)) (PIE X pins σ tg R) X.xe { s1 with heap := s1.heap.push { cls := .type "dict_values", data := .fields #[.ref d] } } :=
    wpAny_pyIter_values_raw (d := d) ⟨_, Heap.get?_push_size _ rfl, rfl, rfl⟩ (raw.at fun o z => Heap.get?_push_of_some _ z)
      (pi_one (tk := s1.toks) (I2.kept (t' := s1.toks) fun b o z => Heap.get?_push_of_some _ z) _ (turnTv _ dt sz) ⟨_, Heap.get?_push_size _ rfl, rfl, rfl⟩ (q od (lkT_keys I2 lk)))
  refine ⟨raw.typeIs, fun b z => ?_, ?_⟩
  · cases z
    obtain ⟨o, g, x2, _⟩ := raw
    exact ⟨o, g, x2.2.1⟩
  · show wpAny _ _ (callWith cp (.builtin "dict.values") [.ref d] [] []) _ X.xe s1
    exact method_meetsIn F.slot_dict_values F.entry_dict_values rfl
      (PySem.evalArgs_none ⟨rfl, raw.typeIs, F.args_dict_values_1 _, _, meets_dict_values_raw d nm, ⟨es, ep, raw⟩, fin⟩)
end
end L2

set_option Elab.async false
set_option linter.all false
set_option maxRecDepth 100000
set_option maxHeartbeats 4000000
namespace DL
open PySem L2
variable [TabsC]
section
variable {K : PySem.W.Frag} {B : Base} {Hf H : Hp} {σ : St} {Γ : Env} {f : Nat → List Addr} {ps : List Pend}
/-- what is frozen behind the lock of the dict at a: the lock, the own objects fp, the keys' tuples -/
noncomputable def lkF (Hf H : Hp) (a : Addr) (fp : List Addr) (od : Obj) (kvs : List (List Key × V)) : Hp := fun b =>
  if b = a then some (.frz od (.dT kvs)) else if b ∈ fp then H b else
    haveI := Classical.propDecidable (∃ j, j < kvs.length ∧ qOf od j = some b)
    if ∃ j, j < kvs.length ∧ qOf od j = some b then H b else Hf b
theorem ReachF.lockT {i : Nat} {o : Own} {a : Addr} {od : Obj} {kvs : List (List Key × V)} (R : ReachF K B Hf H σ Γ f ps) (hi : Γ[i]? = some (.own o)) (ha : a ∈ f i) (hd : H a = some (.dT kvs)) (hk : KeysAt (upd H a (.frz od (.dT kvs))) od kvs) :
    Ex Hf (lkF Hf H a (f i) od kvs) ∧ (∀ b ∈ f i, b ≠ a → lkF Hf H a (f i) od kvs b = H b) ∧ lkF Hf H a (f i) od kvs a = some (.frz od (.dT kvs)) ∧
    (∀ (j : Nat) (k : List Key) (v : V), kvs[j]? = some (k, v) → ∃ q, qOf od j = some q ∧ lkF Hf H a (f i) od kvs q = some (.tup (k.map kV))) ∧
    ReachF K B (lkF Hf H a (f i) od kvs) (upd H a (.frz od (.dT kvs))) σ (Γ.set i .no) (fun j => if j = i then [] else f j) ps := by
  have hil : i < Γ.length := (List.getElem?_eq_some_iff.mp hi).1
  have hoff := R.off i
  -- the keys' tuples
  have keyT : ∀ b j, j < kvs.length → qOf od j = some b → b ≠ a ∧ ∃ xs, H b = some (.tup xs) := fun b j hj e => by
    obtain ⟨q, e1, e2⟩ := hk j kvs[j].1 kvs[j].2 (List.getElem?_eq_getElem hj)
    rw [e] at e1
    cases e1
    by_cases h : b = a
    · subst h; rw [upd_same] at e2; cases e2
    · rw [upd_ne h] at e2; exact ⟨h, _, e2⟩
  have inA : lkF Hf H a (f i) od kvs a = some (.frz od (.dT kvs)) := by unfold lkF; rw [if_pos rfl]
  have inF : ∀ b ∈ f i, b ≠ a → lkF Hf H a (f i) od kvs b = H b := fun b hb ne => by unfold lkF; rw [if_neg ne, if_pos hb]
  have inK : ∀ b j, j < kvs.length → qOf od j = some b → lkF Hf H a (f i) od kvs b = H b := fun b j hj e => by
    obtain ⟨ne, _⟩ := keyT b j hj e
    unfold lkF
    rw [if_neg ne]
    by_cases hb : b ∈ f i
    · rw [if_pos hb]
    · rw [if_neg hb, if_pos ⟨j, hj, e⟩]
  have cases4 : ∀ b, (b = a) ∨ (b ≠ a ∧ b ∈ f i) ∨ (b ≠ a ∧ ∃ xs, H b = some (.tup xs) ∧ lkF Hf H a (f i) od kvs b = H b) ∨ (b ≠ a ∧ b ∉ f i ∧ lkF Hf H a (f i) od kvs b = Hf b) := fun b => by
    by_cases h1 : b = a
    · exact .inl h1
    by_cases h2 : b ∈ f i
    · exact .inr (.inl ⟨h1, h2⟩)
    haveI := Classical.propDecidable (∃ j, j < kvs.length ∧ qOf od j = some b)
    by_cases h3 : ∃ j, j < kvs.length ∧ qOf od j = some b
    · obtain ⟨j, hj, e⟩ := h3
      obtain ⟨_, xs, q⟩ := keyT b j hj e
      exact .inr (.inr (.inl ⟨h1, xs, q, inK b j hj e⟩))
    · refine .inr (.inr (.inr ⟨h1, h2, ?_⟩))
      unfold lkF
      rw [if_neg h1, if_neg h2, if_neg h3]
  have exF : Ex Hf (lkF Hf H a (f i) od kvs) := fun b u q => by
    rcases cases4 b with h | ⟨_, h⟩ | ⟨_, xs, h, e⟩ | ⟨_, _, e⟩
    · subst h; rw [(hoff _ ha).1] at q; cases q
    · rw [(hoff _ h).1] at q; cases q
    · rw [e]; exact R.sub b u q
    · rw [e]; exact q
  have sub : Ex (lkF Hf H a (f i) od kvs) (upd H a (.frz od (.dT kvs))) := fun b u q => by
    rcases cases4 b with h | ⟨ne, h⟩ | ⟨ne, xs, h, e⟩ | ⟨ne, _, e⟩
    · subst h; rw [inA] at q; rw [upd_same]; exact q
    · rw [inF b h ne] at q; rw [upd_ne ne]; exact q
    · rw [e] at q; rw [upd_ne ne]; exact q
    · rw [e] at q; rw [upd_ne ne]; exact R.sub b u q
  have noA : ∀ j, j ≠ i → a ∉ f j := fun j ej h => ej (R.disj j i a h ha)
  have outF : ∀ b, b ∉ f i → Hf b = none → (∀ xs, H b ≠ some (.tup xs)) → lkF Hf H a (f i) od kvs b = none := fun b h1 h2 h3 => by
    rcases cases4 b with h | ⟨_, h⟩ | ⟨_, xs, h, e⟩ | ⟨_, _, e⟩
    · subst h; exact absurd ha h1
    · exact absurd h h1
    · exact absurd h (h3 xs)
    · rw [e]; exact h2
  have hne : ∀ b, b ∉ f i → upd H a (.frz od (.dT kvs)) b = H b := fun b h => upd_ne fun z => h (z ▸ ha)
  refine ⟨exF, inF, inA, fun j k v e => ?_, ?_⟩
  · obtain ⟨q, e1, e2⟩ := hk j k v e
    have hj := (List.getElem?_eq_some_iff.mp e).1
    obtain ⟨ne, _⟩ := keyT q j hj e1
    rw [upd_ne ne] at e2
    exact ⟨q, e1, by rw [inK q j hj e1]; exact e2⟩
  refine ⟨by rw [List.length_set]; exact R.len, sub, fun j g hj => ?_, fun j hj => ?_, fun j k b h1 h2 => ?_, fun p hp => ?_, R.pdis, fun p hp b hb j hj => ?_, R.ex.trans exF, fun b u h1 h2 h3 => ?_, fun b u h1 h2 => ?_, fun b hb => ?_, fun j b hb => ?_, R.pown, fun b u q => ?_, ?_⟩
  · by_cases ej : j = i
    · subst ej
      rw [List.getElem?_set_self hil] at hj
      cases hj
      simp [SlotOk]
    · rw [List.getElem?_set_ne (Ne.symm ej)] at hj
      simp only [ej, if_false]
      have nf : ∀ b ∈ f j, b ∉ f i := fun b h1 h2 => ej (R.disj j i b h1 h2)
      exact (R.slot j g hj).stay (fun b hb => hne b (nf b hb)) exF fun b hb => outF b (nf b hb) (R.off j b hb).1 (R.ntup j b hb)
  · by_cases ej : j = i
    · simp [ej]
    · rw [List.getElem?_set_ne (Ne.symm ej)] at hj
      simp only [ej, if_false]
      exact R.out j hj
  · by_cases ej : j = i
    · simp [ej] at h1
    · by_cases ek : k = i
      · simp [ek] at h2
      · simp only [ej, ek, if_false] at h1 h2
        exact R.disj j k b h1 h2
  · have nf : ∀ b ∈ p.fp, b ∉ f i := fun b h1 h2 => R.psl p hp b h1 i h2
    exact (R.pend p hp).stay (fun b hb => hne b (nf b hb)) exF fun b hb => outF b (nf b hb) (R.poff hp b hb).1 (R.pntup hp b hb)
  · by_cases ej : j = i
    · simp [ej] at hj
    · simp only [ej, if_false] at hj
      exact R.psl p hp b hb j hj
  · by_cases e : b = a
    · subst e
      rcases R.own i _ ha with z | z
      · exact absurd h3 (z u h1)
      · exact absurd z h2
    · rw [upd_ne e]; exact R.keep b u h1 h2 h3
  · by_cases e : b = a
    · subst e; exact ⟨_, upd_same, fun _ z => by cases z⟩
    · rw [upd_ne e]; exact R.dom b u h1 h2
  · rcases cases4 b with h | ⟨_, h⟩ | ⟨_, xs, h, e⟩ | ⟨_, _, e⟩
    · subst h; exact .inr ((R.own i _ ha).imp id .inl)
    · exact .inr ((R.own i _ h).imp id .inl)
    · exact .inr (.inr (.inr ⟨xs, by rw [e]; exact h⟩))
    · rw [e] at hb ⊢; exact R.new b hb
  · by_cases ej : j = i
    · simp [ej] at hb
    · simp only [ej, if_false] at hb
      exact R.own j b hb
  · rcases cases4 b with h | ⟨ne, h⟩ | ⟨_, xs, h, e⟩ | ⟨_, _, e⟩
    · subst h; rw [inA] at q; cases q; exact fun _ z => by cases z
    · rw [inF b h ne] at q; exact R.nt i b h u q
    · rw [e, h] at q; cases q; exact fun _ z => by cases z
    · rw [e] at q; exact R.tab.1 b u q
  · exact tabs_upd R.tab.2 fun o2 ho2 => by
      rw [hd] at ho2
      cases ho2
      exact ⟨fun _ z => by (cases z), fun c q z => by (unfold LamX.CodeO at z; cases z)⟩
omit [TabsC] in
theorem dens_keysOf : ∀ (ks : List Key), Dens K H (ks.map kV) (ks.map keyD)
  | [] => .nil
  | .inl i :: r => .cons (.int i) (dens_keysOf r)
  | .inr x :: r => .cons (.str x) (dens_keysOf r)
omit [TabsC] in
theorem denT_at {l : List (List Key × Dat)} {kvs : List (List Key × V)} (h : DenT K H kvs (datT l)) : kvs.length = l.length ∧ ∀ (i : Nat) (p : List Key × Dat), l[i]? = some p → ∃ v, kvs[i]? = some (p.1, v) ∧ Den K H v p.2 := by
  induction l generalizing kvs with
  | nil => cases h; exact ⟨rfl, fun i p e => by simp at e⟩
  | cons q r ih =>
    obtain ⟨v, s, rfl, a, b⟩ := denT_uncons h
    obtain ⟨h1, h2⟩ := ih b
    refine ⟨by simp [h1], fun i p e => ?_⟩
    cases i with
    | zero => simp at e; subst e; exact ⟨v, rfl, a⟩
    | succ i => exact h2 i p (by simpa using e)
/-- (key, value) -/
def pairD (p : List Key × Dat) : Dat := .tuple [.tuple (p.1.map keyD), p.2]
omit [TabsC] in
theorem iterItT {a : Addr} {od : Obj} {kvs : List (List Key × V)} {l : List (List Key × Dat)} (h1 : Hf a = some (.frz od (.dT kvs))) (h2 : ∀ (j : Nat) (k : List Key) (v : V), kvs[j]? = some (k, v) → ∃ q, qOf od j = some q ∧ Hf q = some (.tup (k.map kV)))
    (h3 : DenT K Hf kvs (datT l)) : IterOf K Hf (ItT a od kvs) (l.map pairD) := by
  obtain ⟨hl, hv⟩ := denT_at h3
  intro Hf2 H2 e1 e2 i
  have lk : LkT H2 a od kvs := e2 _ _ (e1 _ _ h1)
  refine ⟨fun d hd => ?_, fun e => ⟨lk, by rw [e, List.length_map]; omega⟩⟩
  rw [List.getElem?_map] at hd
  cases hp : l[i]? with
  | none => rw [hp] at hd; cases hd
  | some p =>
    rw [hp] at hd
    simp only [Option.map_some, Option.some.injEq] at hd
    subst hd
    obtain ⟨v, e3, dv⟩ := hv i p hp
    have hlt := (List.getElem?_eq_some_iff.mp e3).1
    refine ⟨⟨lk, hlt⟩, fun x H3 hy => ?_⟩
    obtain ⟨T, k, v2, q, e4, e5, rfl, hT, rfl⟩ := hy
    rw [e3] at e4
    cases e4
    obtain ⟨q2, e6, e7⟩ := h2 i _ _ e3
    rw [e5] at e6
    cases e6
    exact .new hT (.cons (.tup (e1 _ _ e7) (dens_keysOf _)) (.cons (dv.mono e1) .nil))
omit [TabsC] in
theorem iterItTv {a : Addr} {od : Obj} {kvs : List (List Key × V)} {l : List (List Key × Dat)} (h1 : Hf a = some (.frz od (.dT kvs))) (h3 : DenT K Hf kvs (datT l)) : IterOf K Hf (ItTv a od kvs) (l.map (·.2)) := by
  obtain ⟨hl, hv⟩ := denT_at h3
  intro Hf2 H2 e1 e2 i
  have lk : LkT H2 a od kvs := e2 _ _ (e1 _ _ h1)
  refine ⟨fun d hd => ?_, fun e => ⟨lk, by rw [e, List.length_map]; omega⟩⟩
  rw [List.getElem?_map] at hd
  cases hp : l[i]? with
  | none => rw [hp] at hd; cases hd
  | some p =>
    rw [hp] at hd
    simp only [Option.map_some, Option.some.injEq] at hd
    subst hd
    obtain ⟨v, e3, dv⟩ := hv i p hp
    have hlt := (List.getElem?_eq_some_iff.mp e3).1
    refine ⟨⟨lk, hlt⟩, fun x H3 hy => ?_⟩
    obtain ⟨rfl, k, e4⟩ := hy
    rw [e3] at e4
    cases e4
    exact .old (dv.mono e1)
end
section
variable {X : Cx} {tg : Expr} {ap cp np : Pos} {x : Str}
/-- d.items() of a dict of the frame: it is not to be used behind -/
def mItemsT (i : Nat) : MI := fun Γ => match Γ[i]? with
  | some (.own (.tdct l)) => some (l.map pairD, Γ.set i .no)
  | _ => none
theorem di_itemsT (i : Nat) {elts : List Expr} {j : Nat} {tp : Pos} (ho : PE X (.Name x np) (tM X.K (mVar i))) (hb : attributeBase (.Name x np) "items" X.env (eval (.Name x np) X.env) = eval (.Name x np) X.env := by rfl) (hl : (ap.endLine == cp.line) = true := by rfl) :
    PI X (.Tuple elts j tp) (.Call (.Attribute (.Name x np) "items" ap) [] [] cp) (tI X.K (mItemsT i)) := PI.imp (pi_itemsT ho hb hl) fun σ H Q h => by
  obtain ⟨B, Hf, Γ, ps, r, Γ', ⟨f, R⟩, ee, kk⟩ := h
  unfold mItemsT at ee
  split at ee
  · rename_i l hl0
    cases ee
    refine ⟨B, Hf, Γ, ps, .bor i, Γ, ⟨f, R⟩, by simp only [mVar, hl0], fun w fp2 Hf3 H3 ⟨f3, R3⟩ => ?_⟩
    have q2 := (R3.pend _ List.mem_cons_self).2
    simp only at q2
    obtain ⟨p, kvs, rfl, h2, h3, h4, h5⟩ := own_tdct R3 hl0 q2
    refine ⟨p, kvs, rfl, h4, fun od hk => ?_⟩
    obtain ⟨e1, e2, e3, e4, R4⟩ := R3.pop.lockT hl0 (by rw [h2]; simp) h4 hk
    exact kk _ _ _ ⟨_, R4⟩ (iterItT e3 e4 (h5.mono e1))
  · cases ee
/-- d.values() of a dict of lists of the frame -/
def mValuesL (i : Nat) : MI := fun Γ => match Γ[i]? with
  | some (.own (.ldct l)) => some (l.map fun p => .list p.2, Γ.set i .no)
  | _ => none
theorem di_valuesL (i : Nat) (ho : PE X (.Name x np) (tM X.K (mVar i))) (hb : attributeBase (.Name x np) "values" X.env (eval (.Name x np) X.env) = eval (.Name x np) X.env := by rfl) (hl : (ap.endLine == cp.line) = true := by rfl) :
    PI X tg (.Call (.Attribute (.Name x np) "values" ap) [] [] cp) (tI X.K (mValuesL i)) := PI.imp (pi_valuesT ho hb hl) fun σ H Q h => by
  obtain ⟨B, Hf, Γ, ps, r, Γ', ⟨f, R⟩, ee, kk⟩ := h
  unfold mValuesL at ee
  split at ee
  · rename_i l hl0
    cases ee
    refine ⟨B, Hf, Γ, ps, .bor i, Γ, ⟨f, R⟩, by simp only [mVar, hl0], fun w fp2 Hf3 H3 ⟨f3, R3⟩ => ?_⟩
    have q2 := (R3.pend _ List.mem_cons_self).2
    simp only at q2
    obtain ⟨a, e1, bs, e2, nd, e3, e4, e5⟩ := R3.slot i _ hl0
    rw [q2] at e1
    cases e1
    refine ⟨a, _, rfl, e4, fun od hk => ?_⟩
    obtain ⟨g1, g2, g3, g4, R4⟩ := R3.pop.lockT hl0 (by rw [e2]; simp) e4 hk
    have dn : DenT X.K (lkF Hf3 H3 a (f3 i) od (bs.map fun p => (p.1, .ref p.2))) (bs.map fun p => (p.1, V.ref p.2)) (datT (datL l)) := e5.den g1 fun b hb => by
      refine g2 b (by rw [e2]; exact List.mem_cons_of_mem _ hb) fun z => ?_
      rw [e2, List.nodup_cons] at nd
      exact nd.1 (z ▸ hb)
    have it := iterItTv g3 dn
    unfold datL at it
    rw [List.map_map] at it
    exact kk _ _ _ ⟨_, R4⟩ it
  · cases ee
end
end DL

set_option Elab.async false
set_option linter.all false
set_option maxRecDepth 100000
set_option maxHeartbeats 4000000
namespace L2
open PySem PySem.Spec PyProof.Rows
/-- d.setdefault(k, z), k a tuple -/
def tSdT (td ty tx : TE) : TE := fun σ H Q => td σ H fun x H1 => ∃ a, x = .ref a ∧ IsD H1 a ∧ ty σ H1 fun y H2 => tx σ H2 fun z H3 => ∃ (kvs : List (List Key × V)) (k : List Key) (b : Addr),
  H3 a = some (.dT kvs) ∧ y = .ref b ∧ H3 b = some (.tup (k.map kV)) ∧ kvs.length < sizeLine ∧ (∀ v, valV kvs k = some v → Q v H3) ∧ (valV kvs k = none → Q z (upd H3 a (.dT (putK kvs k z))))
theorem sdT_run {X : Cx} {pins : List (Addr × Obj)} {σ : St} {H : Hp} {s : Shared} {a b : Addr} {kvs : List (List Key × V)} {k : List Key} {z : V} {r : Value} {A : Around} {E : Value → Shared → Prop} {Q : Value → Shared → Prop}
    (hu : A.units + 1 < cLine) (I : Inv X pins σ H s) (e : H a = some (.dT kvs)) (eb : H b = some (.tup (k.map kV))) (hl : kvs.length < sizeLine) (rz : RelV z r)
    (h1 : ∀ v w' s', valV kvs k = some v → Inv X pins σ H s' → RelV v w' → Q w' s') (h2 : ∀ s', valV kvs k = none → Inv X pins σ (upd H a (.dT (putK kvs k z))) s' → Q r s') :
    wpAny (model X.prog X.w) A (call (.builtin "dict.setdefault") [.ref a, .ref b, r]) Q E s := by
  obtain ⟨le, nm, xs, rel, dd⟩ := dt_of I.hok e
  have val := rel.val k
  refine call_setdefault_heap (hsz := by rw [← Paired.length rel]; exact le) (tupleKind_room_in1 hu) (key_of I.hok eb) nm dd (fun p hp => ?_) fun hn h' dd' sb => ?_
  · rw [hp] at val
    cases hv : valV kvs k with
    | none => rw [hv] at val; cases val
    | some v =>
      rw [hv] at val
      exact h1 v p.2 _ hv (I.tok _) (by exact val)
  · rw [hn] at val
    have hv : valV kvs k = none := by
      cases hq : valV kvs k with
      | none => rfl
      | some v => rw [hq] at val; cases val
    obtain ⟨q, es, ep, hq, g2, g3, g4, _, g5⟩ := dd'
    have len := length_putK kvs k z
    refine h2 _ hv (d_write I (by rw [e]; exact True.intro) sb ⟨q, hq⟩ ⟨by omega, nm, _, (rel.put k eb rz).keeps fun c ys ec => ?_, q, es, ep, hq, g2, g3, g4, g5⟩)
    rw [upd_ne (ne_of ec e fun y => by cases y)]
    exact ec
theorem pe_sdT {X : Cx} {o e f : Expr} {ap cp : Pos} {td ty tx : TE} (hu : X.A.units + 1 < cLine) (ho : PE X o td) (he : PE X e ty) (hf : PE X f tx) (m : M2 X o "setdefault" ap e f cp) :
    PE X (.Call (.Attribute o "setdefault" ap) [e, f] [] cp) (tSdT td ty tx) := ⟨fun pins s σ H Q I h => by
  refine wpAny_Call_method m.base m.few m.line PySem.F.plainAttrs_dict PySem.F.slot_dict_setdefault PySem.F.type_dict_setdefault
    (thn (ho.run pins s σ H _ I h) fun u s1 ⟨x, H1, I1, rx, a, ex, d, q1⟩ => ?_)
  subst ex
  cases (show u = Value.ref a from rx)
  obtain ⟨t1, t2, _⟩ := isD_at I1 d
  refine ⟨t1, t2, ?_⟩
  rw [m.trees]
  refine Calls.callWith_builtin rfl (Calls.evalArgs_plain (Calls.spliced_cons (thn (he.run pins s1 σ H1 _ I1 q1) fun iv s2 ⟨y, H2, I2, ry, q2⟩ =>
    Calls.spliced_cons (thn (hf.run pins s2 σ H2 _ I2 q2) fun fv s3 ⟨z, H3, I3, rz, kvs, k, b, e1, e2, e3, e4, e5, e6⟩ => Calls.spliced_nil ?_))))
  subst e2
  cases (show iv = Value.ref b from ry)
  exact sdT_run hu I3 e1 e3 e4 rz (fun v w' s' hv J rw' => ⟨v, H3, J, rw', e5 v hv⟩) fun s' hv J => ⟨z, _, J, rz, e6 hv⟩⟩
end L2
namespace DL
open PySem L2
variable [TabsC]
section
variable {K : PySem.W.Frag} {B : Base} {Hf H H' : Hp} {σ : St} {Γ : Env} {f : Nat → List Addr} {ps : List Pend}
/-- what a slot owns is written, it may grow by new objects -/
theorem ReachF.reown {i : Nat} {o o' : Own} {a : Addr} {fp' : List Addr} (R : ReachF K B Hf H σ Γ f ps) (hi : Γ[i]? = some (.own o)) (hv : σ[i]? = some (some (.ref a))) (h : OwnAt K Hf H' a o' fp') (hs : ∀ b ∈ fp', b ∈ f i ∨ H b = none)
    (same : ∀ b, b ∉ f i → H b ≠ none → H' b = H b) (old : ∀ b ∈ f i, ∃ u, H' b = some u ∧ NT u) : ReachF K B Hf H' σ (Γ.set i (.own o')) (fun j => if j = i then fp' else f j) ps := by
  have hil : i < Γ.length := (List.getElem?_eq_some_iff.mp hi).1
  have keepT : ∀ b u, H b = some u → b ∉ f i → H' b = some u := fun b u q n => by rw [same b n (by rw [q]; simp)]; exact q
  have fr : ∀ b ∈ fp', b ∉ f i → (∀ j, b ∉ f j) ∧ (∀ p ∈ ps, b ∉ p.fp) ∧ NB B b := fun b hb n => by
    rcases hs b hb with z | z
    · exact absurd z n
    · exact R.fresh z
  have apart : ∀ b ∈ fp', ∀ j, j ≠ i → b ∉ f j := fun b hb j ej hj => by
    by_cases n : b ∈ f i
    · exact ej (R.disj j i b hj n)
    · exact (fr b hb n).1 j hj
  have nc := own_nc (R.slot i _ hi)
  refine ⟨by rw [List.length_set]; exact R.len, fun b u q => ?_, fun j g hj => ?_, fun j hj => ?_, fun j k b h1 h2 => ?_, fun p hp => ?_, R.pdis, fun p hp b hb j hj => ?_, R.ex, fun b u h1 h2 h3 => ?_, fun b u h1 h2 => ?_, R.new, fun j b hb => ?_, R.pown, R.tab.1, fun p hp => ?_⟩
  · have n : b ∉ f i := fun z => by rw [(R.off i b z).1] at q; cases q
    exact keepT b u (R.sub b u q) n
  · by_cases ej : j = i
    · subst ej
      rw [List.getElem?_set_self hil] at hj
      cases hj
      simp only [if_true]
      exact ⟨a, hv, h⟩
    · rw [List.getElem?_set_ne (Ne.symm ej)] at hj
      simp only [ej, if_false]
      exact (R.slot j g hj).stay (fun b hb => same b (fun z => ej (R.disj j i b hb z)) (R.off j b hb).2) (Evl.Ex.refl _) fun b hb => (R.off j b hb).1
  · by_cases ej : j = i
    · subst ej; rw [List.getElem?_set_self hil] at hj; cases hj
    · rw [List.getElem?_set_ne (Ne.symm ej)] at hj
      simp only [ej, if_false]
      exact R.out j hj
  · by_cases ej : j = i
    · by_cases ek : k = i
      · rw [ej, ek]
      · simp only [ej, if_true] at h1
        simp only [ek, if_false] at h2
        exact absurd h2 (apart b h1 k ek)
    · by_cases ek : k = i
      · simp only [ek, if_true] at h2
        simp only [ej, if_false] at h1
        exact absurd h1 (apart b h2 j ej)
      · simp only [ej, ek, if_false] at h1 h2
        exact R.disj j k b h1 h2
  · exact (R.pend p hp).stay (fun b hb => same b (fun z => R.psl p hp b hb i z) (R.poff hp b hb).2) (Evl.Ex.refl _) fun b hb => (R.poff hp b hb).1
  · by_cases ej : j = i
    · simp only [ej, if_true] at hj
      by_cases n : b ∈ f i
      · exact R.psl p hp b hb i n
      · exact (fr b hj n).2.1 p hp hb
    · simp only [ej, if_false] at hj
      exact R.psl p hp b hb j hj
  · refine keepT b u (R.keep b u h1 h2 h3) fun z => ?_
    rcases R.own i b z with y | y
    · exact y u h1 h3
    · exact h2 y
  · obtain ⟨v, h4, h5⟩ := R.dom b u h1 h2
    by_cases n : b ∈ f i
    · exact old b n
    · exact ⟨v, keepT b v h4 n, h5⟩
  · by_cases ej : j = i
    · simp only [ej, if_true] at hb
      by_cases n : b ∈ f i
      · exact R.own i b n
      · exact .inl (fr b hb n).2.2
    · simp only [ej, if_false] at hb
      exact R.own j b hb
  · obtain ⟨qs, h1, h2, h3⟩ := R.tab.2 p hp
    refine ⟨qs, keepT _ _ h1 fun z => R.nt i _ z _ h1 qs rfl, h2, fun pos cv hc => ?_⟩
    obtain ⟨c, e1, e2⟩ := h3 pos cv hc
    exact ⟨c, e1, keepT _ _ e2 fun z => nc c z e2 c p.2 rfl⟩
end
def appT {α : Type} : List (List Key × List α) → List Key → α → List (List Key × List α)
  | [], k, x => [(k, [x])]
  | p :: r, k, x => if p.1 = k then (k, p.2 ++ [x]) :: r else p :: appT r k x
/-- d.setdefault(k, []).append(x) -/
def mSdApp (i j : Nat) (mk : M) : M := fun Γ => match Γ[i]? with
  | some (.own (.ldct _)) => (mk Γ).bind fun p => match p.1, p.2[i]?, p.2[j]? with
    | .d (.tuple ks), some (.own (.ldct l)), some (.d x) => (keysOf ks).bind fun kk => if (l.map (·.1)).Nodup ∧ l.length < lim ∧ (∀ q ∈ l, q.2.length < lim) then some (.d .none, p.2.set i (.own (.ldct (appT l kk x)))) else none
    | _, _, _ => none
  | _ => none
section
variable {K : PySem.W.Frag} {Hf H H' : Hp}
omit [TabsC] in
theorem lists_keys : ∀ {bs : List (List Key × Addr)} {l : List (List Key × List Dat)}, ListsAt K Hf H bs l → bs.map (·.1) = l.map (·.1)
  | [], [], _ => rfl
  | [], _ :: _, h => h.elim
  | _ :: _, [], h => h.elim
  | p :: r, q :: s, h => by rw [List.map_cons, List.map_cons, lists_keys h.2.2.2, h.1]
/-- the list at a key that is there grows -/
theorem lists_app {k : List Key} {x : V} {d : Dat} (dx : Den K Hf x d) : ∀ {bs : List (List Key × Addr)} {l : List (List Key × List Dat)}, ListsAt K Hf H bs l → (l.map (·.1)).Nodup → (bs.map (·.2)).Nodup → k ∈ l.map (·.1) →
    ∃ b xs, b ∈ bs.map (·.2) ∧ valV (bs.map fun p => (p.1, V.ref p.2)) k = some (.ref b) ∧ H b = some (.lst xs) ∧ (∃ q ∈ l, q.2.length = xs.length) ∧ ListsAt K Hf (upd H b (.lst (xs ++ [x]))) bs (appT l k d)
  | [], [], _, _, _, hk => by simp at hk
  | [], _ :: _, h, _, _, _ => h.elim
  | _ :: _, [], h, _, _, _ => h.elim
  | p :: r, q :: s, h, n1, n2, hk => by
    obtain ⟨h1, h2, ⟨xs, h3, h4⟩, h5⟩ := h
    rw [List.map_cons, List.nodup_cons] at n1 n2
    by_cases e : q.1 = k
    · refine ⟨p.2, xs, by simp, ?_, h3, ⟨q, by simp, h4.length.symm⟩, ?_⟩
      · rw [List.map_cons]; exact valV_pos (h1.trans e)
      · rw [appT, if_pos e]
        refine ⟨h1.trans e, h2, ⟨_, upd_same, h4.append (.cons dx .nil)⟩, h5.stay (Evl.Ex.refl _) (fun b hb => upd_ne fun z => n2.1 (z ▸ hb)) fun b hb => (h5.off b hb).1⟩
    · have hk2 : k ∈ s.map (·.1) := by
        rw [List.map_cons] at hk
        rcases List.mem_cons.mp hk with z | z
        · exact absurd z.symm e
        · exact z
      obtain ⟨b, ys, g1, g2, g3, ⟨q', gq, gl⟩, g4⟩ := lists_app dx h5 n1.2 n2.2 hk2
      refine ⟨b, ys, List.mem_cons_of_mem _ g1, ?_, g3, ⟨q', List.mem_cons_of_mem _ gq, gl⟩, ?_⟩
      · rw [List.map_cons, valV_neg (fun z => e (h1.symm.trans z))]; exact g2
      · rw [appT, if_neg e]
        have ne : p.2 ≠ b := fun z => n2.1 (z ▸ g1)
        exact ⟨h1, h2, ⟨xs, by rw [upd_ne ne]; exact h3, h4⟩, g4⟩
omit [TabsC] in
theorem appT_new {α : Type} {k : List Key} {x : α} : ∀ {l : List (List Key × List α)}, k ∉ l.map (·.1) → appT l k x = l ++ [(k, [x])]
  | [], _ => rfl
  | p :: r, h => by
    rw [List.map_cons, List.mem_cons, not_or] at h
    rw [appT, if_neg (fun z => h.1 z.symm), appT_new h.2, List.cons_append]
omit [TabsC] in
theorem valV_none {k : List Key} : ∀ {kvs : List (List Key × V)}, k ∉ kvs.map (·.1) → valV kvs k = none
  | [], _ => rfl
  | p :: r, h => by
    rw [List.map_cons, List.mem_cons, not_or] at h
    rw [valV_neg (fun z => h.1 z.symm)]
    exact valV_none h.2
omit [TabsC] in
theorem putK_new {k : List Key} {v : V} {kvs : List (List Key × V)} (h : k ∉ kvs.map (·.1)) : putK kvs k v = kvs ++ [(k, v)] := by
  unfold putK
  rw [if_neg]
  simp only [List.any_eq_true, decide_eq_true_eq, not_exists, not_and]
  intro p hp e
  exact h (e ▸ List.mem_map.mpr ⟨p, hp, rfl⟩)
theorem lists_snoc {k : List Key} {b : Addr} {xs : List V} {ds : List Dat} (hf : Hf b = none) (hb : H b = some (.lst xs)) (d : Dens K Hf xs ds) : ∀ {bs : List (List Key × Addr)} {l : List (List Key × List Dat)}, ListsAt K Hf H bs l → ListsAt K Hf H (bs ++ [(k, b)]) (l ++ [(k, ds)])
  | [], [], _ => ⟨rfl, hf, ⟨xs, hb, d⟩, trivial⟩
  | [], _ :: _, h => h.elim
  | _ :: _, [], h => h.elim
  | p :: r, q :: s, h => ⟨h.1, h.2.1, h.2.2.1, lists_snoc hf hb d h.2.2.2⟩
end
end DL

set_option Elab.async false
set_option linter.all false
set_option maxRecDepth 100000
set_option maxHeartbeats 4000000
namespace DL
open PySem L2
variable [TabsC]
theorem d_tv {X : Cx} {pos : Pos} (i : Nat) {x : Str} (hN : X.N[i]? = some x := by rfl) (hv : Vis X.env.scope x := by first | exact Or.inl rfl | exact Or.inr (Or.inl rfl) | exact Or.inr (Or.inr rfl)) (hd : (x == ("__debug__" : Str)) = false := by decide)
    (hcd : (x == ("__classdict__" : Str)) = false := by decide) : PE X (.Name x pos) (tVar i) := pe_var hN hv hd hcd
theorem d_sdApp {X : Cx} {a : Expr} {mk : M} {k : Nat} {np ap lp cp ap2 yp cp2 : Pos} (i j : Nat) {x y : Str} (c : Cok k X) (ho : PE X (.Name x np) (tM X.K (mVar i))) (ha : PE X a (tM X.K mk)) (hy : PE X (.Name y yp) (tVar j))
    (m : M2 X (.Name x np) "setdefault" ap a (.List [] lp) cp := by exact ⟨rfl, rfl, rfl, rfl⟩) (hs : starEach [.Name y yp] X.env = (false, eval (.Name y yp) X.env) :: starEach [] X.env := by rfl)
    (hbase : attributeBase (.Call (.Attribute (.Name x np) "setdefault" ap) [a, .List [] lp] [] cp) "append" X.env (eval (.Call (.Attribute (.Name x np) "setdefault" ap) [a, .List [] lp] [] cp) X.env) = eval (.Call (.Attribute (.Name x np) "setdefault" ap) [a, .List [] lp] [] cp) X.env := by rfl)
    (hfew : ((backTo cp2 (starEach [.Name y yp] X.env)).all (fun x => !x.1) && (backToKw cp2 (keywordEach [] X.env)).all (fun x => x.1.isSome) && decide (([.Name y yp] : List Expr).length + ([] : List Keyword).length + (if ([] : List Keyword).isEmpty then 0 else 1) < 30)) = true := by rfl)
    (hline : (ap2.endLine == cp2.line) = true := by rfl) :
    PE X (.Call (.Attribute (.Call (.Attribute (.Name x np) "setdefault" ap) [a, .List [] lp] [] cp) "append" ap2) [.Name y yp] [] cp2) (tM X.K (mSdApp i j mk)) :=
  PE.imp (pe_bm PySem.F.plainAttrs_list PySem.F.slot_list_append PySem.F.type_list_append mt_append (pe_sdT (by have := c.hu; omega) ho ha (pe_lst pa_nil) m) (pa_cons hy pa_nil hs) hbase hfew hline hs) fun σ H Q h => by
  obtain ⟨B, Hf, Γ, ps, r, Γ', ⟨f, R⟩, ee, kk⟩ := h
  unfold mSdApp at ee
  split at ee
  case h_2 => cases ee
  rename_i l0 hl0
  obtain ⟨⟨s1, Γ1⟩, e1, ee⟩ := bindE ee
  simp only at ee
  split at ee
  case h_2 => cases ee
  rename_i ks l xd hl hj
  obtain ⟨kys, e2, ee⟩ := bindE ee
  split at ee
  case isFalse => cases ee
  rename_i hc
  obtain ⟨nd, hl1, hl2⟩ := hc
  cases ee
  refine ⟨B, Hf, Γ, ps, .bor i, Γ, ⟨f, R⟩, by simp only [mVar, hl0], fun w fp2 Hf3 H3 ⟨f3, R3⟩ => ?_⟩
  have qi := (R3.pend _ List.mem_cons_self).2
  simp only at qi
  obtain ⟨a0, g1, bs0, g2, gnd0, g3, g4, g5⟩ := R3.slot i _ hl0
  rw [qi] at g1
  cases g1
  refine ⟨a0, rfl, .inr ⟨_, Rd.of g4⟩, B, Hf3, Γ, _, _, _, ⟨f3, R3⟩, e1, fun yv fp Hf4 H4 ⟨f4, R4⟩ => ?_⟩
  have dk := (R4.pend _ List.mem_cons_self).2
  simp only at dk
  rw [keysOf_some e2] at dk
  obtain ⟨b', rfl, hb'⟩ := den_key dk
  refine ⟨Nat.zero_le _, fun p hp => ?_⟩
  have R5 := R4.pop.pop.alloc (o := .lst []) hp
  obtain ⟨a1, q1, bs, q2, qnd, q3, q4, q5⟩ := R5.slot i _ hl
  rw [qi] at q1
  cases q1
  obtain ⟨_, xv, hxv, dx⟩ := R5.slot j _ hj
  have hkeys := lists_keys q5
  have hlen : bs.length = l.length := by
    have := congrArg List.length hkeys
    simpa using this
  have kvk : (bs.map fun p => (p.1, V.ref p.2)).map (·.1) = l.map (·.1) := by rw [← hkeys, List.map_map]; rfl
  have hbt : upd H4 p (.lst []) b' = some (.tup (kys.map kV)) := R5.sub _ _ hb'
  have qnd2 : (bs.map (·.2)).Nodup := by rw [q2] at qnd; exact (List.nodup_cons.mp qnd).2
  have ain : ∀ b ∈ bs.map (·.2), b ∈ f4 i := fun b hb => by rw [q2]; exact List.mem_cons_of_mem _ hb
  have ane : ∀ b ∈ bs.map (·.2), b ≠ a0 := fun b hb z => by
    rw [q2] at qnd
    exact (List.nodup_cons.mp qnd).1 (z ▸ hb)
  refine ⟨_, kys, b', q4, rfl, hbt, by rw [List.length_map, hlen]; exact Nat.lt_of_lt_of_le hl1 lim_le, fun v hv => ?_, fun hn => ?_⟩
  · have hk : kys ∈ l.map (·.1) := by
      by_cases z : kys ∈ l.map (·.1)
      · exact z
      · rw [valV_none (by rw [kvk]; exact z)] at hv
        cases hv
    obtain ⟨b, xs, h1, h2, h3, ⟨q', hq1, hq2⟩, h4⟩ := lists_app dx q5 nd qnd2 hk
    rw [h2] at hv
    cases hv
    refine ⟨.inl ⟨rfl, xs, .inl (.inl h3)⟩, xv, hxv, b, xs, xv, rfl, rfl, h3, by rw [← hq2]; exact Nat.lt_of_lt_of_le (hl2 q' hq1) lim_le, ?_⟩
    refine kk .non [] Hf4 _ ⟨_, (R5.reown (o' := .ldct (appT l kys xd)) (fp' := f4 i) hl qi ⟨bs, q2, qnd, q3, by rw [upd_ne (Ne.symm (ane b h1))]; exact q4, h4⟩ (fun z hz => .inl hz) (fun z hz _ => upd_ne fun e => hz (e ▸ ain b h1)) fun z hz => ?_).pushD .non⟩
    by_cases e : z = b
    · subst e; exact ⟨_, upd_same, fun _ y => by cases y⟩
    · rw [upd_ne e]
      cases hq : upd H4 p (.lst []) z with
      | none => exact absurd hq (R5.off i z hz).2
      | some u => exact ⟨u, rfl, R5.nt i z hz u hq⟩
  · have hk : kys ∉ l.map (·.1) := fun z => by
      obtain ⟨b, xs, _, h2, _⟩ := lists_app dx q5 nd qnd2 z
      rw [h2] at hn
      cases hn
    have pn : p ∉ f4 i := fun z => (R4.pop.pop.off i p z).2 hp
    have pa : p ≠ a0 := fun z => pn (by rw [q2, z]; simp)
    have pbs : ∀ b ∈ bs.map (·.2), b ≠ p := fun b hb z => pn (z ▸ ain b hb)
    have h3 : upd (upd H4 p (.lst [])) a0 (.dT (putK (bs.map fun p => (p.1, V.ref p.2)) kys (.ref p))) p = some (.lst []) := by rw [upd_ne pa]; exact upd_same
    refine ⟨.inl ⟨rfl, [], .inl (.inl h3)⟩, xv, hxv, p, [], xv, rfl, rfl, h3, by decide, ?_⟩
    have ek : putK (bs.map fun p => (p.1, V.ref p.2)) kys (.ref p) = (bs ++ [(kys, p)]).map fun p => (p.1, V.ref p.2) := by
      rw [putK_new (by rw [kvk]; exact hk), List.map_append]
      rfl
    have hfp : Hf4 p = none := Evl.fresh_back R4.sub hp
    have own : OwnAt X.K Hf4 (upd (upd (upd H4 p (.lst [])) a0 (.dT (putK (bs.map fun p => (p.1, V.ref p.2)) kys (.ref p)))) p (.lst ([] ++ [xv]))) a0 (.ldct (appT l kys xd)) (a0 :: (bs ++ [(kys, p)]).map (·.2)) := by
      refine ⟨bs ++ [(kys, p)], rfl, ?_, q3, ?_, ?_⟩
      · rw [List.map_append, List.nodup_cons, List.nodup_append, List.mem_append]
        rw [q2] at qnd
        refine ⟨fun z => ?_, (List.nodup_cons.mp qnd).2, by simp, fun b hb d hd e => ?_⟩
        · rcases z with z | z
          · exact (List.nodup_cons.mp qnd).1 z
          · exact pa (List.mem_singleton.mp z).symm
        · have : d = p := by simpa using hd
          exact pbs b hb (e.trans this)
      · rw [upd_ne (Ne.symm pa), upd_same, ek]
      · rw [appT_new hk]
        refine lists_snoc hfp upd_same (.cons dx .nil) (q5.stay (Evl.Ex.refl _) (fun b hb => ?_) fun b hb => (q5.off b hb).1)
        rw [upd_ne (pbs b hb), upd_ne (ane b hb)]
    have R6 := R4.pop.pop
    refine kk .non [] Hf4 _ ⟨_, (R6.reown hl qi own (fun z hz => ?_) (fun z hz hz2 => ?_) fun z hz => ?_).pushD .non⟩
    · rw [List.map_append] at hz
      rcases List.mem_cons.mp hz with rfl | hz
      · exact .inl (by rw [q2]; simp)
      · rcases List.mem_append.mp hz with hz | hz
        · exact .inl (ain z hz)
        · have : z = p := by simpa using hz
          exact .inr (this ▸ hp)
    · have h1 : z ≠ p := fun e => hz2 (e ▸ hp)
      have h2 : z ≠ a0 := fun e => hz (by rw [q2, e]; simp)
      rw [upd_ne h1, upd_ne h2, upd_ne h1]
    · have h1 : z ≠ p := fun e => pn (e ▸ hz)
      rw [upd_ne h1]
      by_cases e : z = a0
      · subst e; exact ⟨_, upd_same, fun _ y => by cases y⟩
      · rw [upd_ne e, upd_ne h1]
        cases hq : H4 z with
        | none => exact absurd hq (R6.off i z hz).2
        | some u => exact ⟨u, rfl, R6.nt i z hz u hq⟩
/-- {} whose values will be lists -/
def mDictL : M := fun Γ => some (.own (.ldct []), Γ)
theorem d_dictL {X : Cx} {pos : Pos} : PE X (.Dict [] [] pos) (tM X.K mDictL) := PE.imp pe_dnewT fun σ H Q h => by
  obtain ⟨B, Hf, Γ, ps, r, Γ', ⟨f, R⟩, e, kk⟩ := h
  cases e
  refine fun p hp => kk _ [p] Hf (upd H p (.dT [])) ⟨f, ?_⟩
  obtain ⟨f1, f2, f3⟩ := R.fresh hp
  refine (R.alloc hp).push ⟨p, rfl, [], rfl, by simp, Evl.fresh_back R.sub hp, upd_same, trivial⟩ (fun b hb => ?_) (fun b hb => ?_)
  · obtain rfl : b = p := by simpa using hb
    exact ⟨f1, f2⟩
  · obtain rfl : b = p := by simpa using hb
    exact .inl f3
end DL

set_option Elab.async false
set_option linter.all false
set_option maxRecDepth 100000
set_option maxHeartbeats 4000000
namespace L2
open PySem PySem.Spec PyProof.Rows PySem.W
/-- an item of a tally: a tuple of ints, and an int -/
def itD (p : List Int × Int) : PyData := .tuple [.tuple (p.1.map PyData.int), .int p.2]
theorem itD_alike (p q : List Int × Int) : alike (itD p) (itD q) = true := by
  unfold itD
  simp [alike, alikeAll, alike_ints]
theorem itD_depth (p : List Int × Int) : (itD p).depth ≤ 5 := by
  unfold itD
  simp [PyData.depth, PyData.depthAll, depth_ints]
abbrev tkV (p : List Int × Int) : List Key × V := (p.1.map Sum.inl, V.int p.2)
/-- sorted(d.items()): new pairs, the first one the key's own tuple -/
def rSortI : List V → Hp → VK → Prop := fun vs H Q => ∃ (p a : Addr) (l : List (List Int × Int)), vs = [.ref p] ∧ H p = some (DX.itemsO p a) ∧ H a = some (.dT (l.map tkV)) ∧
  ∀ (H' : Hp) (L : Addr) (ms : List (Addr × Addr × List Int × Int)), Evl.Ex H H' → ms.map (·.2.2) = l.mergeSort (dataLe false itD) → H L = none → H' L = some (.lst (ms.map fun m => V.ref m.1)) →
    (∀ m ∈ ms, m.1 ≠ L ∧ H m.1 = none ∧ H' m.1 = some (.tup [.ref m.2.1, .int m.2.2.2]) ∧ H m.2.1 = some (.tup (m.2.2.1.map V.int))) → Q (.ref L) H'
theorem cr_sortI {X : Cx} (hc : X.calm = true) (hu : X.A.units + 64 < cLine) : CallR X (.builtin "sorted") rSortI := by
  intro pins s σ H xs us Q I rv h
  obtain ⟨p, a, l, rfl, hp, ha, k⟩ := h
  obtain rfl := Vals.ref1 rv
  have vw : s.heap.IsItemsView p a := (I.hok p _ hp).1
  obtain ⟨le, _, zs, rel, od, es, ep, g1, g2, g3, en, _⟩ := dt_of I.hok ha
  have lz : l.length = zs.length := by simpa using Paired.length rel
  have lsz : es.size = l.length := by rw [size_of_entries en]; exact lz.symm
  refine DT.sortedI (es := es) (ep := ep) (I.ok.hd hc) vw ⟨od, g1, g2, g3⟩ (by rw [lsz]; simpa using le) fun g tk as kp lt la mk => ?_
  let ms0 : List (Addr × Addr × List Int × Int) := as.zip ((zs.zip l).map fun y => (y.1.2.1, y.2))
  have las : as.length = l.length := by rw [la, lsz]
  have lms : ms0.length = l.length := by simp [ms0, las, lz]
  have e1 : ms0.map (·.1) = as := List.map_fst_zip (by simp [las, lz])
  have e2 : ms0.map (·.2.2) = l := by
    have : ms0.map (·.2.2) = (ms0.map (·.2)).map (·.2) := by rw [List.map_map]; rfl
    rw [this, List.map_snd_zip (by simp [las, lz]), List.map_map]
    exact List.map_snd_zip (by omega)
  have nd : as.Nodup := mk.rise.imp fun z => Nat.ne_of_lt z
  -- what each pair is
  have pr : ∀ m ∈ ms0, g.objs.size ≠ m.1 ∧ s.heap.objs.size ≤ m.1 ∧ H m.2.1 = some (.tup (m.2.2.1.map V.int)) ∧ ∃ t, g.get? m.1 = some { cls := .type "tuple", data := .seq #[.ref m.2.1, .int m.2.2.2 t] } := by
    intro m hm
    obtain ⟨j, hj⟩ := List.mem_iff_getElem?.mp hm
    obtain ⟨j1, j2⟩ := List.getElem?_zip_eq_some.mp hj
    rw [List.getElem?_map] at j2
    obtain ⟨y, j3, j4⟩ := Option.map_eq_some_iff.mp j2
    obtain ⟨j5, j6⟩ := List.getElem?_zip_eq_some.mp j3
    obtain ⟨m1, m2, m3⟩ := m
    simp only [Prod.mk.injEq] at j4
    obtain ⟨rfl, rfl⟩ := j4
    obtain ⟨en2, k1, k2⟩ := mk.pairs j _ j1
    obtain ⟨z, hz, _, q2, q3⟩ := paired_get rel (show (l.map tkV)[j]? = some (tkV y.2) by rw [List.getElem?_map, j6]; rfl)
    rw [j5] at hz
    cases hz
    rw [entry_at en j, j5] at k1
    cases k1
    obtain ⟨t, q4⟩ := q3
    refine ⟨fun e => absurd (Heap.lt_size k2) (by rw [← e]; exact Nat.lt_irrefl _), Nat.le_of_lt (mk.above _ (List.mem_of_getElem? j1)), by rw [q2, List.map_map]; rfl, t, ?_⟩
    rw [k2, ← q4]
    rfl
  have ev : as.map Value.ref = ms0.map fun m => Value.ref m.1 := by rw [← e1, List.map_map]; rfl
  have hob : (g.push { cls := .type "list", data := .seq (as.map Value.ref).toArray }).get? g.objs.size = some (seqObj "list" (as.map Value.ref).toArray 0) := Heap.get?_push_size _ rfl
  have kg : ∀ b o, g.get? b = some o → (g.push { cls := .type "list", data := .seq (as.map Value.ref).toArray }).get? b = some o := fun b o e => Heap.get?_push_of_some _ e
  generalize hg2 : g.push { cls := .type "list", data := .seq (as.map Value.ref).toArray } = g2 at hob kg ⊢
  have ks : ∀ b o, s.heap.get? b = some o → g2.get? b = some o := fun b o e => kg b o (kp b o e)
  have ne0 : ∀ b o, g.get? b = some o → b ≠ g.objs.size := fun b o e => Nat.ne_of_lt (Heap.lt_size e)
  have each : ∀ ms : List (Addr × Addr × List Int × Int), EachIs (fun v m => v = Value.ref m.1) (ms.map fun m => Value.ref m.1) ms := fun ms => by
    induction ms with
    | nil => exact .nil
    | cons m r ih => exact .cons rfl ih
  have rd : ∀ m ∈ ms0, Reads g2 (.ref m.1) (itD m.2.2) [] := fun m hm => by
    obtain ⟨_, _, h1, t, h2⟩ := pr m hm
    obtain ⟨_, its, rv, ot, hot, hct, nt, hdt⟩ := (show ObjOk X.prog X.w H s.heap m.2.1 (.tup (m.2.2.1.map V.int)) from I.hok _ _ h1)
    have r1 : Reads g2 (.ref m.2.1) (.tuple (m.2.2.1.map PyData.int)) [] := .tuple (ks _ _ hot) hct hdt (readsInts (ints_of_vals rv))
    have r2 : ReadsAll g2 [.ref m.2.1, .int m.2.2.2 t] [.tuple (m.2.2.1.map PyData.int), .int m.2.2.2] ([] ++ ([] ++ [])) := .cons r1 (.cons (.int _ _) .nil)
    exact .tuple (kg _ _ h2) rfl rfl r2
  have er : ∀ ms : List (Addr × Addr × List Int × Int), (∀ m ∈ ms, Reads g2 (.ref m.1) (itD m.2.2) []) → EachIs (fun v m => ∃ bs, Reads g2 v (itD m.2.2) bs ∧ g.objs.size ∉ bs) (ms.map fun m => Value.ref m.1) ms := fun ms => by
    induction ms with
    | nil => exact fun _ => .nil
    | cons m r ih => exact fun q => .cons ⟨[], q m List.mem_cons_self, by simp⟩ (ih fun x hx => q x (List.mem_cons_of_mem _ hx))
  refine list_sort_data (R := fun v m => v = Value.ref m.1) (enc := fun m : Addr × Addr × List Int × Int => itD m.2.2) (bs := ms0) (s := { s with heap := g2, toks := tk }) hob (by rw [ev]; exact each ms0) (by rw [ev]; exact er ms0 rd) (AllAlike.of fun _ _ => itD_alike _ _) (Sortable.tuples fun b => ⟨_, _, rfl⟩) (by rw [lms]; simpa using le) (fun b _ => by have := itD_depth b.2.2; show X.A.units + 1 + 1 + _ < cLine; omega) fun out lo eo => ?_
  have hout : ∀ (ms : List (Addr × Addr × List Int × Int)) (o : List Value), EachIs (fun v m => v = Value.ref m.1) o ms → o = ms.map fun m => Value.ref m.1 := fun ms => by
    induction ms with
    | nil => intro o q; cases q; rfl
    | cons m r ih => intro o q; cases q with | cons h1 h2 => rw [h1, ih _ h2]; rfl
  generalize hms : ms0.mergeSort (dataLe false fun m : Addr × Addr × List Int × Int => itD m.2.2) = ms at eo
  have pm : ms.Perm ms0 := by rw [← hms]; exact List.mergeSort_perm _ _
  have em : ms.map (·.2.2) = l.mergeSort (dataLe false itD) := by
    rw [← hms]
    exact (List.map_mergeSort (r := dataLe false fun m : Addr × Addr × List Int × Int => itD m.2.2) (s := dataLe false itD) (f := fun m : Addr × Addr × List Int × Int => m.2.2) fun _ _ _ _ => rfl).trans (by rw [e2])
  have eo2 := hout ms out eo
  have kF : ∀ b o, b ≠ g.objs.size → g2.get? b = some o → (sortedHeap g2 g.objs.size (as.map Value.ref) out.toArray).get? b = some o := fun b o hb e => (sortedHeap_old hb (Heap.lt_size e)).trans e
  have kS : ∀ b o, s.heap.get? b = some o → (sortedHeap g2 g.objs.size (as.map Value.ref) out.toArray).get? b = some o := fun b o e => kF b o (ne0 _ _ (kp b o e)) (ks b o e)
  obtain ⟨c, hc2⟩ := sortedHeap_at (vs := as.map Value.ref) (out := out.toArray) hob
  have I1 : Inv X pins σ H { s with heap := sortedHeap g2 g.objs.size (as.map Value.ref) out.toArray, toks := tk } := I.kept kS
  have hn0 : H g.objs.size = none := I.hok.fresh (Nat.le_of_lt lt)
  have rvs : ∀ ms : List (Addr × Addr × List Int × Int), Vals (ms.map fun m => V.ref m.1) (ms.map fun m => Value.ref m.1) := fun ms => by
    induction ms with
    | nil => exact .nil
    | cons m r ih => exact .cons rfl ih
  have I2 : Inv X pins σ (upd H g.objs.size (.lst (ms.map fun m => V.ref m.1))) { s with heap := sortedHeap g2 g.objs.size (as.map Value.ref) out.toArray, toks := tk } :=
    I1.take (fun b ob _ e => e) (I.fpOk (Nat.le_of_lt lt) hn0) ⟨by rw [List.length_map, pm.length_eq, lms]; simpa using le, out, c, by rw [eo2]; exact rvs ms, hc2⟩
  obtain ⟨H2, I3, gr, qt⟩ := DX.takeT (P := fun b vs => ∃ m ∈ ms0, m.1 = b ∧ vs = [V.ref m.2.1, V.int m.2.2.2]) I as _ I2 nd fun b hb => by
    rw [← e1] at hb
    obtain ⟨m, hm, rfl⟩ := List.mem_map.mp hb
    obtain ⟨h1, h2, h3, t, h4⟩ := pr m hm
    refine ⟨h2, by rw [upd_ne (fun z => h1 z.symm)]; exact I.hok.fresh h2, _, ⟨m, hm, rfl, rfl⟩, fun H3 => ⟨by show 2 ≤ sizeLine; rw [sizeLine_eq]; omega, [.ref m.2.1, .int m.2.2.2 t], .cons rfl (.cons ⟨t, rfl⟩ .nil), ⟨_, kF _ _ (fun z => h1 z.symm) (kg _ _ h4), rfl, 0, rfl⟩⟩⟩
  have nd2 : (ms0.map (·.1)).Nodup := by rw [e1]; exact nd
  refine ⟨.ref g.objs.size, H2, I3, rfl, k H2 g.objs.size ms (fun b o e => gr b o (by rw [upd_ne (fun z => by rw [z, hn0] at e; cases e)]; exact e)) em hn0 (gr _ _ upd_same) fun m hm => ?_⟩
  have hm0 : m ∈ ms0 := pm.mem_iff.mp hm
  obtain ⟨h1, h2, h3, _⟩ := pr m hm0
  refine ⟨fun z => h1 z.symm, I.hok.fresh h2, ?_, h3⟩
  obtain ⟨vs, ⟨m2, hm2, f1, f2⟩, f3⟩ := qt m.1 (by rw [← e1]; exact List.mem_map.mpr ⟨m, hm0, rfl⟩)
  have : m2 = m := by
    obtain ⟨i, hi⟩ := List.mem_iff_getElem?.mp hm0
    obtain ⟨j, hj⟩ := List.mem_iff_getElem?.mp hm2
    have q1 : (ms0.map (·.1))[i]? = some m.1 := by rw [List.getElem?_map, hi]; rfl
    have q2 : (ms0.map (·.1))[j]? = some m.1 := by rw [List.getElem?_map, hj, ← f1]; rfl
    have ij : i = j := (List.getElem?_inj (List.getElem?_eq_some_iff.mp q1).1 nd2).mp (q1.trans q2.symm)
    rw [ij, hj] at hi
    exact Option.some.inj hi
  rw [f3, f2, this]
end L2
namespace DL
open PySem L2
variable [TabsC]
def allT (Hf H : Hp) : Hp := fun b => match H b with
  | some (.tup xs) => some (.tup xs)
  | _ => Hf b
section
variable {K : PySem.W.Frag} {B : Base} {Hf H : Hp} {σ : St} {Γ : Env} {f : Nat → List Addr} {ps : List Pend}
omit [TabsC] in
theorem allT_tup {b : Addr} {xs : List V} (h : H b = some (.tup xs)) : allT Hf H b = some (.tup xs) := by unfold allT; rw [h]
omit [TabsC] in
theorem allT_cases (b : Addr) : (∃ xs, H b = some (.tup xs) ∧ allT Hf H b = some (.tup xs)) ∨ ((∀ xs, H b ≠ some (.tup xs)) ∧ allT Hf H b = Hf b) := by
  unfold allT
  cases h : H b with
  | none => exact .inr ⟨fun _ z => by (cases z), rfl⟩
  | some u => cases u <;> first | exact .inl ⟨_, rfl, rfl⟩ | exact .inr ⟨fun _ z => by (cases z), rfl⟩
/-- all tuples of the heap may be taken as frozen -/
theorem ReachF.learnT (R : ReachF K B Hf H σ Γ f ps) : Evl.Ex Hf (allT Hf H) ∧ ReachF K B (allT Hf H) H σ Γ f ps := by
  have e : Evl.Ex Hf (allT Hf H) := fun b u q => by
    rcases allT_cases (Hf := Hf) (H := H) b with ⟨xs, h1, h2⟩ | ⟨_, h2⟩
    · have := R.sub b u q; rw [h1] at this; rw [h2]; exact this
    · rw [h2]; exact q
  have off : ∀ b, Hf b = none → (∀ xs, H b ≠ some (.tup xs)) → allT Hf H b = none := fun b h1 h2 => by
    rcases allT_cases (Hf := Hf) (H := H) b with ⟨xs, h3, _⟩ | ⟨_, h3⟩
    · exact absurd h3 (h2 xs)
    · rw [h3]; exact h1
  refine ⟨e, R.len, fun b u q => ?_, fun i g hi => (R.slot i g hi).stay (fun _ _ => rfl) e fun b hb => off b (R.off i b hb).1 (R.ntup i b hb), R.out, R.disj, fun p hp => (R.pend p hp).stay (fun _ _ => rfl) e fun b hb => off b (R.poff hp b hb).1 (R.pntup hp b hb), R.pdis, R.psl, R.ex.trans e, R.keep, R.dom, fun b hb => ?_, R.own, R.pown, fun b u q => ?_, R.tab.2⟩
  · rcases allT_cases (Hf := Hf) (H := H) b with ⟨xs, h1, h2⟩ | ⟨_, h2⟩
    · rw [h2] at q; rw [h1]; exact q
    · rw [h2] at q; exact R.sub b u q
  · rcases allT_cases (Hf := Hf) (H := H) b with ⟨xs, h1, h2⟩ | ⟨_, h2⟩
    · exact .inr (.inr (.inr ⟨xs, h2⟩))
    · rw [h2] at hb ⊢; exact R.new b hb
  · rcases allT_cases (Hf := Hf) (H := H) b with ⟨xs, h1, h2⟩ | ⟨_, h2⟩
    · rw [h2] at q; cases q; exact fun _ z => by cases z
    · rw [h2] at q; exact R.tab.1 b u q
end
/-- the heap grows, the tuples at L are frozen -/
theorem ReachF.growT {K : PySem.W.Frag} {B : Base} {Hf H H' : Hp} {σ : St} {Γ : Env} {f : Nat → List Addr} {ps : List Pend} (L : List Addr) (R : ReachF K B Hf H σ Γ f ps) (e : Evl.Ex H H') (h : ∀ b ∈ L, H b = none ∧ ∃ xs, H' b = some (.tup xs)) :
    ∃ Hf', Evl.Ex Hf Hf' ∧ (∀ b ∈ L, Hf' b = H' b) ∧ (∀ b, b ∉ L → Hf' b = Hf b) ∧ ReachF K B Hf' H' σ Γ f ps := by
  have e2 : Evl.Ex Hf (fun b => if b ∈ L then H' b else Hf b) := fun b u q => by
    have hb : b ∉ L := fun z => by have := R.sub b u q; rw [(h b z).1] at this; cases this
    simp only [if_neg hb]
    exact q
  refine ⟨fun b => if b ∈ L then H' b else Hf b, e2, fun b hb => if_pos hb, fun b hb => if_neg hb, R.grow e e2 (fun b u q => ?_) (fun b q => ?_) fun b u q => ?_⟩
  · by_cases hb : b ∈ L
    · simp only [if_pos hb] at q; exact q
    · simp only [if_neg hb] at q; exact e _ _ (R.sub b u q)
  · by_cases hb : b ∈ L
    · exact .inr (h b hb).1
    · simp only [if_neg hb] at q; exact .inl q
  · by_cases hb : b ∈ L
    · simp only [if_pos hb] at q
      obtain ⟨xs, h2⟩ := (h b hb).2
      rw [h2] at q
      cases q
      exact .inr fun _ z => by cases z
    · simp only [if_neg hb] at q; exact .inl q
def keysI : List Key → Option (List Int)
  | [] => some []
  | .inl i :: r => (keysI r).map (i :: ·)
  | _ => none
theorem keysI_some : ∀ {k : List Key} {l : List Int}, keysI k = some l → k = l.map Sum.inl
  | [], _, h => by cases h; rfl
  | .inl i :: r, l, h => by
    obtain ⟨m, h1, rfl⟩ := Option.map_eq_some_iff.mp h
    rw [keysI_some h1]; rfl
  | .inr x :: r, l, h => by cases h
def itemsI : List (List Key × Dat) → Option (List (List Int × Int))
  | [] => some []
  | (k, .int v) :: r => (keysI k).bind fun l => (itemsI r).map ((l, v) :: ·)
  | _ => none
theorem itemsI_some : ∀ {l : List (List Key × Dat)} {m : List (List Int × Int)}, itemsI l = some m → l = m.map fun p => (p.1.map Sum.inl, .int p.2)
  | [], _, h => by cases h; rfl
  | (k, d) :: r, m, h => by
    cases d <;> simp only [itemsI, reduceCtorEq] at h
    obtain ⟨l, h1, h⟩ := Option.bind_eq_some_iff.mp h
    obtain ⟨m2, h2, rfl⟩ := Option.map_eq_some_iff.mp h
    rw [keysI_some h1, itemsI_some h2]; rfl
/-- sorted(d.items()), a dict of the frame with tuples of ints as keys -/
def mSortI (i : Nat) : M := fun Γ => match Γ[i]? with
  | some (.own (.tdct l)) => (itemsI l).map fun m => (.own (.lst ((m.mergeSort (PySem.W.dataLe false itD)).map itD)), Γ)
  | _ => none
theorem denT_ints {K : PySem.W.Frag} {H : Hp} : ∀ {m : List (List Int × Int)} {kvs : List (List Key × V)}, DenT K H kvs (datT (m.map fun p => (p.1.map Sum.inl, PyData.int p.2))) → kvs = m.map tkV
  | [], _, h => by cases h; rfl
  | p :: r, _, h => by
    obtain ⟨v, s, rfl, a, b⟩ := denT_uncons h
    cases a
    rw [denT_ints b]; rfl
theorem d_sortI {X : Cx} {k i : Nat} {x : Str} {np ap cp p pos : Pos} (hc : Cok k X) (ho : PE X (.Name x np) (tM X.K (mVar i))) (hms : X.mg "sorted" = none) (hg : Gl X "sorted" := by rfl)
    (hb : attributeBase (.Name x np) "items" X.env (eval (.Name x np) X.env) = eval (.Name x np) X.env := by rfl) (hl : (ap.endLine == cp.line) = true := by rfl)
    (he : starEach [.Call (.Attribute (.Name x np) "items" ap) [] [] cp] X.env = (false, eval (.Call (.Attribute (.Name x np) "items" ap) [] [] cp) X.env) :: starEach [] X.env := by rfl) (hpl : (backTo pos (starEach [] X.env)).any (·.1) = false := by rfl) :
    PE X (.Call (.Name "sorted" p) [.Call (.Attribute (.Name x np) "items" ap) [] [] cp] [] pos) (tM X.K (mSortI i)) :=
  PE.imp (pe_callB (cr_sortI hc.calm hc.hu) hg hms PyProof.Rows.boot_sorted (pa_cons (pe_bm0 PySem.F.plainAttrs_dict PySem.F.slot_dict_items PySem.F.type_dict_items DX.mt_itemsT ho hb hl) pa_nil he) (he := he) (hpl := hpl)) fun σ H Q h => by
    obtain ⟨B, Hf, Γ, ps, r, Γ', ⟨f, R⟩, ee, kk⟩ := h
    unfold mSortI at ee
    split at ee
    case h_2 => cases ee
    rename_i l hl0
    obtain ⟨m, em, ee⟩ := Option.map_eq_some_iff.mp ee
    simp only [Prod.mk.injEq] at ee
    obtain ⟨rfl, rfl⟩ := ee
    refine ⟨B, Hf, Γ, ps, .bor i, Γ, ⟨f, R⟩, by simp only [mVar, hl0], fun w fp2 Hf3 H3 ⟨f3, R3⟩ => ?_⟩
    have q2 := (R3.pend _ List.mem_cons_self).2
    simp only at q2
    obtain ⟨a, kvs, rfl, h2, h3, h4, h5⟩ := own_tdct R3 hl0 q2
    rw [itemsI_some em] at h5
    have ek := denT_ints h5
    subst ek
    refine ⟨.inr (.inr (.inl ⟨rfl, .inr ⟨_, h4⟩⟩)), a, _, rfl, rfl, h4, fun p hp => ?_⟩
    refine ⟨p, a, m, rfl, upd_same, by rw [upd_ne (fun z => by rw [z, hp] at h4; cases h4)]; exact h4, fun H5 L ms e5 e6 hL hL5 hm => ?_⟩
    obtain ⟨eA, R4⟩ := (R3.pop.alloc (o := DX.itemsO p a) hp).learnT
    obtain ⟨f1, f2, f3'⟩ := R4.fresh hL
    obtain ⟨Hf5, e2, i1, i2, R5⟩ := R4.growT (ms.map (·.1)) e5 (fun b hb => by
      obtain ⟨z, hz, rfl⟩ := List.mem_map.mp hb
      exact ⟨(hm z hz).2.1, _, (hm z hz).2.2.1⟩)
    have hn : Hf5 L = none := by
      rw [i2 L fun z => by
        obtain ⟨y, hy, ey⟩ := List.mem_map.mp z
        exact (hm y hy).1 ey]
      exact Evl.fresh_back R4.sub hL
    have den : ∀ ns : List (Addr × Addr × List Int × Int), (∀ z ∈ ns, z ∈ ms) → Dens X.K Hf5 (ns.map fun m => V.ref m.1) ((ns.map (·.2.2)).map itD) := fun ns => by
      induction ns with
      | nil => exact fun _ => .nil
      | cons z r ih =>
          intro hz
          obtain ⟨_, z2, z3, z4⟩ := hm z (hz z List.mem_cons_self)
          have t1 : Hf5 z.1 = some (.tup [.ref z.2.1, .int z.2.2.2]) := by rw [i1 _ (List.mem_map.mpr ⟨z, hz z List.mem_cons_self, rfl⟩)]; exact z3
          have t2 : Hf5 z.2.1 = some (.tup (z.2.2.1.map V.int)) := e2 _ _ (allT_tup z4)
          have t3 : ∀ l : List Int, Dens X.K Hf5 (l.map V.int) (l.map PyData.int) := fun l => by
            induction l with
            | nil => exact .nil
            | cons i r ih => exact .cons (.int i) ih
          exact .cons (.tup t1 (.cons (.tup t2 (t3 _)) (.cons (.int _) .nil))) (ih fun y hy => hz y (List.mem_cons_of_mem _ hy))
    have dl := den ms fun _ h => h
    rw [e6] at dl
    refine kk _ [L] Hf5 H5 ⟨f3, R5.push ⟨L, rfl, rfl, hn, _, hL5, dl⟩ (fun b hb => ?_) fun b hb => ?_⟩
    · obtain rfl : b = L := by simpa using hb
      exact ⟨f1, f2⟩
    · obtain rfl : b = L := by simpa using hb
      exact .inl f3'
end DL

set_option Elab.async false
set_option linter.all false
set_option maxRecDepth 100000
set_option maxHeartbeats 4000000
namespace L2
open PySem PySem.Spec PyProof.Rows
/-- x in l, data of a small depth in a list -/
def rInL (K : PySem.W.Frag) (neg : Bool) : R2 := fun x y H Q => ∃ d ds, Dp K H x d ∧ Dp K H y (.list ds) ∧ d.canLay0 = true ∧ PyData.canLayAll0 ds = true ∧ d.depth ≤ 60 ∧
  Q (.bl (if neg then !ds.any fun z => PyData.eqv z d else ds.any fun z => PyData.eqv z d)) H
theorem op_inL {X : Cx} (hu : X.A.units + 64 < cLine) : OpR X (compareOp .In) (rInL X.K false) := by
  intro pins s σ H x y v u Q I rx ry h
  obtain ⟨d, ds, hd, he, c1, c2, dp, q⟩ := h
  obtain ⟨as, r1⟩ := Dp.reads I d x v hd rx
  obtain ⟨bs, r2⟩ := Dp.reads I (.list ds) y u he ry
  have := Nat.min_le_right (PyData.depthAll ds) d.depth
  exact SeqAt.in_list_reads r2 r1 c2 c1 (by omega) ⟨.bl _, H, I, rfl, q⟩
theorem op_ninL {X : Cx} (hu : X.A.units + 64 < cLine) : OpR X (compareOp .NotIn) (rInL X.K true) := by
  intro pins s σ H x y v u Q I rx ry h
  obtain ⟨d, ds, hd, he, c1, c2, dp, q⟩ := h
  obtain ⟨as, r1⟩ := Dp.reads I d x v hd rx
  obtain ⟨bs, r2⟩ := Dp.reads I (.list ds) y u he ry
  have := Nat.min_le_right (PyData.depthAll ds) d.depth
  exact SeqAt.notIn_list_reads r2 r1 c2 c1 (by omega) ⟨.bl _, H, I, rfl, q⟩
/-- l.count(x) -/
def rCntL (K : PySem.W.Frag) : V → List V → Hp → VK → Prop := fun x xs H Q => ∃ (a : Addr) (y : V) (d : PyData) (ds : List PyData), x = V.ref a ∧ xs = [y] ∧ Dp K H (V.ref a) (.list ds) ∧ Dp K H y d ∧
  d.canLay0 = true ∧ PyData.canLayAll0 ds = true ∧ d.depth ≤ 60 ∧ Q (.int ((ds.countP fun z => PyData.eqv z d : Nat) : Int)) H
theorem mt_cntL {X : Cx} (hu : X.A.units + 64 < cLine) : MtR X "list.count" (rCntL X.K) := by
  intro pins s σ H x xs v us Q I rx rxs h
  obtain ⟨a, y, d, ds, rfl, rfl, hl, hy, c1, c2, dp, q⟩ := h
  cases rx
  obtain ⟨u, rfl, ru⟩ := rxs.one
  obtain ⟨bs, r1⟩ := Dp.reads I d y u hy ru
  cases hl with
  | lst hs ha =>
    obtain ⟨its, rv, ⟨⟨cls, dd, data, sl⟩, n, ho, hc, hdn, hd⟩, hlen⟩ := I.list hs
    simp only at hc hd
    subst hc hd
    obtain ⟨as, h4⟩ := Dp.readsAll I ds _ its ha rv
    have hmap : its.map (SeqAt.readOf s.heap) = ds := SeqAt.readsAll_map ds its as c2 h4
    have := Nat.min_le_right (PyData.depthAll ds) d.depth
    refine call_meets PySem.F.slot_list_count ⟨_, ho, rfl⟩ PySem.F.entry_list_count (PySem.F.args_list_count_2 _ _)
      (SeqAt.list_countAt a its.toArray n dd sl u fun z => PyData.eqv (SeqAt.readOf s.heap z) d) ⟨ho, SeqAt.items_eqAt (vs := its.toArray) (show ReadsAll s.heap its.toArray.toList ds as from h4) r1 c2 c1 (by omega), ?_⟩
    have ec : its.toArray.toList.countP (fun z => PyData.eqv (SeqAt.readOf s.heap z) d) = ds.countP fun z => PyData.eqv z d := by
      rw [← hmap, List.countP_map]
      rfl
    refine ⟨.int ((ds.countP fun z => PyData.eqv z d : Nat) : Int), H, I.tok _, ⟨s.toks, ?_⟩, q⟩
    rw [ec]
/-- x *= y -/
def ipC (C : Int → Int → Prop) (f : Int → Int → Int) : TIp := fun x y H Q => ∃ i j, x = .int i ∧ y = .int j ∧ C i j ∧ Q (.int (f i j)) H
theorem ip_mul {X : Cx} : PIp X .Mult (ipC CMul fun i j => i * j) := by
  intro pins s σ H x y v u Q I r1 r2 h
  obtain ⟨i, j, rfl, rfl, c, q⟩ := h
  obtain ⟨t, rfl⟩ := r1
  obtain ⟨t', rfl⟩ := r2
  exact imul_int ⟨.int _, H, I.tok _, ⟨_, rfl⟩, q⟩ c.ok
/-- len of a dict with flat keys -/
theorem call_len_dK {X : Cx} : CallR X (.builtin "len") (fun xs H Q => ∃ (p : Addr) (kvs : List (Key × V)), xs = [.ref p] ∧ Rd H p (.dK kvs) ∧ Q (.int ((kvs.length : Nat) : Int)) H) := by
  intro pins s σ H xs us Q I r h
  obtain ⟨p, kvs, rfl, hp, q⟩ := h
  obtain ⟨u, rfl, rx⟩ := vals1 r
  cases rx
  exact d_len I hp fun t s' I' => ⟨.int ((kvs.length : Nat) : Int), H, I', ⟨t, rfl⟩, q⟩
/-- tuple(l) of a list: the object that is made -/
def rTupZ (K : PySem.W.Frag) : List V → Hp → VK → Prop := fun xs H Q => ∃ p ys, xs = [.ref p] ∧ SqL K H p ys ∧ ∀ l o, H l = none → o.cls = .type "tuple" → o.dict = none → Q (.ref l) (upd H l (.frz o (.tup ys)))
theorem call_tupZ {X : Cx} : CallR X (.type "tuple") (rTupZ X.K) := by
  intro pins s σ H xs us Q I r h
  obtain ⟨p, ys, rfl, hq, q⟩ := h
  obtain ⟨u, rfl, rx⟩ := vals1 r
  cases rx
  obtain ⟨its, rv, pl, hz⟩ := I.list hq
  have hlen := rv.length
  refine call_tuple_list pl.isList (fun h' kp => ?_) (by simp only [List.size_toArray] <;> omega)
  have I1 : Inv X pins σ H { s with heap := h' } := I.kept (t' := s.toks) kp
  have I2 : Inv X pins σ (upd H h'.objs.size (.frz { cls := .type "tuple", data := .seq its.toArray } (.tup ys))) { s with heap := h'.push { cls := .type "tuple", data := .seq its.toArray } } :=
    I1.laid (t' := s.toks) (fun b o e => Heap.get?_push_of_some _ e) (Nat.le_refl _) ⟨Heap.get?_push_size _ rfl, hz, its, rv, IsTup.new _ _⟩
  exact ⟨.ref h'.objs.size, _, I2, rfl, q _ _ (I1.hok.fresh (Nat.le_refl _)) rfl rfl⟩
/-- dict(t) of a tuple of pairs, the keys different tuples: what is told of t's object is asked -/
def rDictZ : List V → Hp → VK → Prop := fun vs H Q => ∃ (a : Addr) (o : Obj) (rs : List (Addr × Addr × List Key × V)), vs = [.ref a] ∧ H a = some (.frz o (.tup (rs.map fun r => V.ref r.1))) ∧ o.cls = .type "tuple" ∧ o.dict = none ∧
  (∀ r ∈ rs, H r.1 = some (.tup [.ref r.2.1, r.2.2.2]) ∧ H r.2.1 = some (.tup (r.2.2.1.map kV))) ∧ (rs.map (·.2.2.1)).Nodup ∧ ∀ p, H p = none → Q (.ref p) (upd H p (.dT (rs.map (·.2.2))))
theorem storedAll_new {K : Type} [DecidableEq K] : ∀ (ps xs : List (K × Addr × Value)), ((xs ++ ps).map (·.1)).Nodup → storedAllH xs ps = xs ++ ps
  | [], xs, _ => by simp [storedAllH]
  | p :: ps, xs, nd => by
    have no : atKey xs p.1 = none := by
      rw [List.map_append, List.map_cons, List.nodup_append] at nd
      obtain ⟨_, _, q⟩ := nd
      cases e : atKey xs p.1 with
      | none => rfl
      | some v =>
        obtain ⟨x, h1, _⟩ := Option.map_eq_some_iff.mp e
        have h2 := List.find?_some h1
        simp only [decide_eq_true_eq] at h2
        exact absurd rfl (q p.1 (by rw [← h2]; exact List.mem_map.mpr ⟨x, List.mem_of_find?_eq_some h1, rfl⟩) p.1 List.mem_cons_self)
    have st : storedAllH xs (p :: ps) = storedAllH (storedH xs p.1 p.2.1 p.2.2) ps := rfl
    rw [st, storedH_new no, storedAll_new ps _ (by rw [List.append_assoc]; exact nd), List.append_assoc]
    rfl
theorem call_dictZ {X : Cx} (hc : X.calm = true) (hu : X.A.units + 64 < cLine) : CallR X (.type "dict") rDictZ := by
  intro pins s σ H xs us Q I rv h
  obtain ⟨a, o, rs, rfl, ha, hcl, hdn, hrs, nd, q⟩ := h
  obtain rfl := Vals.ref1 rv
  obtain ⟨g0, hz, its, rits, o2, g1, _, n, g2⟩ := (show ObjOk X.prog X.w H s.heap a (.frz o (.tup (rs.map fun r => V.ref r.1))) from I.hok a _ ha)
  rw [g0] at g1
  cases g1
  rw [List.length_map] at hz
  -- the values behind
  have prs : ∀ rs : List (Addr × Addr × List Key × V), (∀ r ∈ rs, H r.1 = some (.tup [.ref r.2.1, r.2.2.2]) ∧ H r.2.1 = some (.tup (r.2.2.1.map kV))) →
      ∃ ps : List (List Key × Addr × Value), Paired (fun (r : Addr × Addr × List Key × V) (p : List Key × Addr × Value) => p.1 = r.2.2.1 ∧ p.2.1 = r.2.1 ∧ RelV r.2.2.2 p.2.2 ∧ PairAt s.heap r.1 (.ref p.2.1) p.2.2) rs ps := fun rs => by
    induction rs with
    | nil => exact fun _ => ⟨[], .nil⟩
    | cons r t ih =>
      intro hr
      obtain ⟨ps, hp⟩ := ih fun x hx => hr x (List.mem_cons_of_mem _ hx)
      obtain ⟨h1, h2⟩ := hr r List.mem_cons_self
      obtain ⟨_, ws, rw', tp⟩ := (show ObjOk X.prog X.w H s.heap r.1 (.tup [.ref r.2.1, r.2.2.2]) from I.hok _ _ h1)
      obtain ⟨u1, u2, rfl, r1, r2⟩ := vals2 rw'
      cases r1
      exact ⟨(r.2.2.1, r.2.1, u2) :: ps, .cons ⟨rfl, rfl, r2, .inl tp⟩ hp⟩
  obtain ⟨ps, hp⟩ := prs rs hrs
  have hl : rs.length = ps.length := hp.length
  have eits : its = rs.map fun r => Value.ref r.1 := by
    have : ∀ (rs : List (Addr × Addr × List Key × V)) (its : List Value), Vals (rs.map fun r => V.ref r.1) its → its = rs.map fun r => Value.ref r.1 := fun rs => by
      induction rs with
      | nil => intro its h; cases h; rfl
      | cons r t ih => intro its h; cases h with | cons h1 h2 => cases h1; rw [ih _ h2]; rfl
    exact this rs its rits
  have key : ∀ x ∈ ps, ∃ r ∈ rs, x.1 = r.2.2.1 ∧ x.2.1 = r.2.1 := fun x hx => by
    obtain ⟨j, hj⟩ := List.mem_iff_getElem?.mp hx
    obtain ⟨r, h1, h2⟩ := DX.pget hp hj
    exact ⟨r, List.mem_of_getElem? h1, h2.1, h2.2.1⟩
  have ek : ps.map (·.1) = rs.map (·.2.2.1) := by
    have : ∀ (rs : List (Addr × Addr × List Key × V)) (ps : List (List Key × Addr × Value)), Paired (fun (r : Addr × Addr × List Key × V) (p : List Key × Addr × Value) => p.1 = r.2.2.1 ∧ p.2.1 = r.2.1 ∧ RelV r.2.2.2 p.2.2 ∧ PairAt s.heap r.1 (.ref p.2.1) p.2.2) rs ps → ps.map (·.1) = rs.map (·.2.2.1) := fun rs => by
      induction rs with
      | nil => intro its h; cases h; rfl
      | cons r t ih => intro its h; cases h with | cons h1 h2 => rw [List.map_cons, List.map_cons, ih _ h2, h1.1]
    exact this rs ps hp
  have kt : ∀ (P : Addr → Prop) (H' : Hp), (∀ r ∈ rs, H' r.2.1 = some (.tup (r.2.2.1.map kV))) → KT H' (rs.map (·.2.2)) ps := fun _ H' hH => by
    have : ∀ (rs : List (Addr × Addr × List Key × V)) (ps : List (List Key × Addr × Value)), (∀ r ∈ rs, H' r.2.1 = some (.tup (r.2.2.1.map kV))) → Paired (fun (r : Addr × Addr × List Key × V) (p : List Key × Addr × Value) => p.1 = r.2.2.1 ∧ p.2.1 = r.2.1 ∧ RelV r.2.2.2 p.2.2 ∧ PairAt s.heap r.1 (.ref p.2.1) p.2.2) rs ps → KT H' (rs.map (·.2.2)) ps := fun rs => by
      induction rs with
      | nil => intro its _ h; cases h; exact .nil
      | cons r t ih => intro its hr h; cases h with | cons h1 h2 => exact .cons ⟨h1.1.symm, by rw [h1.2.1]; exact hr r List.mem_cons_self, h1.2.2.1⟩ (ih _ (fun x hx => hr x (List.mem_cons_of_mem _ hx)) h2)
    exact this rs ps hH hp
  have P := PairArg.tuple (prog := X.prog) (w := X.w) a its.toArray (fun j => (rs.map (·.1)).getD j 0) (ps.map fun x => (Value.ref x.2.1, x.2.2))
  have sl := sizeLine_eq
  refine call_dict_pairsH (knd := tupleKind (mixKind X.prog X.w)) (ps := ps) P (I.ok.hd hc) (tupleKind_room_in1 (by show X.A.units + 1 + 1 < cLine; omega)) ⟨⟨o, n, g0, hcl, hdn, g2⟩, ?_, fun j k v hj => ?_⟩ ⟨by simp, fun i k v hr => ?_⟩ (fun h' hk x hx => ?_) (by simp; omega) fun h' tk dd kp => ?_
  · simp [eits, hl]
  · rw [List.getElem?_map] at hj
    obtain ⟨x, h1, h2⟩ := Option.map_eq_some_iff.mp hj
    simp only [Prod.mk.injEq] at h2
    obtain ⟨rfl, rfl⟩ := h2
    obtain ⟨r, h3, h4⟩ := DX.pget hp h1
    have e1 : (rs.map (·.1)).getD j 0 = r.1 := by rw [List.getD_eq_getElem?_getD, List.getElem?_map, h3]; rfl
    refine ⟨?_, by simp only [e1]; exact h4.2.2.2⟩
    simp only [e1, List.getElem?_toArray, eits, List.getElem?_map, h3, Option.map_some]
  · rw [PairRel, List.getElem?_map] at hr
    obtain ⟨x, h1, h2⟩ := Option.map_eq_some_iff.mp hr
    simp only [Prod.mk.injEq] at h2
    obtain ⟨rfl, rfl⟩ := h2
    exact ⟨x.1, x.2.1, h1, rfl⟩
  · obtain ⟨r, h1, h2, h3⟩ := key x hx
    rw [h2, h3]
    exact key_of (I.kept (h' := h') (t' := s.toks) fun b ob e => hk b ob (Nat.ne_of_lt (Heap.lt_size e)) (by simp) e).hok (hrs r h1).2
  · have e0 : storedAllH [] ps = ps := by rw [storedAll_new ps [] (by rw [List.nil_append, ek]; exact nd)]; rfl
    rw [e0] at dd
    have hm : (s.heap.objs.size == sysModules) = false := beq_eq_false_iff_ne.mpr (Nat.ne_of_gt I.big)
    have hn := I.hok.fresh (Nat.le_refl s.heap.objs.size)
    have keep : ∀ b u, s.heap.get? b = some u → h'.get? b = some u := fun b u e => kp b u (by simp) e
    obtain ⟨od, es, ep, q1, q2, q3, q4, _, q5⟩ := dd
    exact ⟨.ref s.heap.objs.size, upd H s.heap.objs.size (.dT (rs.map (·.2.2))), I.laid (t' := tk) keep (Nat.le_refl _) ⟨by rw [List.length_map]; exact hz, hm, ps, kt (fun _ => True) _ (fun r hr => by rw [upd_ne (ne_of_none (hrs r hr).2 hn)]; exact (hrs r hr).2), od, es, ep, q1, q2, q3, q4, q5⟩, rfl, q _ hn⟩
/-- {k: v}, k a tuple -/
def tDisT (tk tv : TE) : TE := fun σ H Q => ∀ p, H p = none → tk σ (upd H p (.dT [])) fun y H1 => tv σ H1 fun z H2 => ∃ (b : Addr) (k : List Key), y = .ref b ∧ H2 b = some (.tup (k.map kV)) ∧ H2 p = some (.dT []) ∧ Q (.ref p) (upd H2 p (.dT [(k, z)]))
theorem pe_disT {X : Cx} {pos : Pos} {k v : Expr} {tk tv : TE} (hu : X.A.units + 64 < cLine) (hk : PE X k tk) (hv : PE X v tv) : PE X (.Dict [some k] [v] pos) (tDisT tk tv) := by
  refine ⟨fun pins s σ H Q I q => ?_⟩
  have hn := I.hok.fresh (Nat.le_refl s.heap.objs.size)
  have I1 := I.laid (a := s.heap.objs.size) (o := .dT []) (h' := s.heap.push { cls := .type "dict", data := .dict #[] }) (t' := s.toks) (fun _ _ q => Heap.get?_push_of_some _ q) (Nat.le_refl _) (dt_empty s.heap I.big)
  have hshape : (evalEachOpt [some k] X.env).zip ((evalEach [v] X.env).map fun v => do let x ← v; standAt pos; pure x) = (pairTrees [some k] [v] X.env pos).map fun p => (some p.1, p.2) := rfl
  rw [arm_eval_Dict, hshape, dictDisplay_pairs _ (by simp [pairTrees]) (by simp [pairTrees])]
  refine wpAny_bind (wpAny_standAt (wpAny_bind (wpAny_subDictH (knd := tupleKind (mixKind X.prog X.w)) (show X.A.units < cLine by omega) (by simp [pairTrees]) ?_)))
  refine wpAny_mono ((pps_cons (pos := pos) hk hv pps_nil).run pins _ σ _ (fun ps H2 => match ps with
    | [(y, z)] => ∃ (b : Addr) (kk : List Key), y = V.ref b ∧ H2 b = some (.tup (kk.map kV)) ∧ H2 s.heap.objs.size = some (.dT []) ∧ Q (.ref s.heap.objs.size) (upd H2 s.heap.objs.size (.dT [(kk, z)]))
    | _ => False) I1 (q _ hn)) (fun vs s2 ⟨ps, H2, I2, rel, qq⟩ => ?_) fun _ _ e => e
  split at qq
  case h_2 => exact qq.elim
  rename_i y z
  obtain ⟨b, kk, rfl, h1, h2, q2⟩ := qq
  cases rel with
  | @cons _ w0 _ _ r1 r2 =>
    cases r2
    obtain ⟨k0, v0⟩ := w0
    obtain ⟨rk, rz⟩ := r1
    cases (show k0 = Value.ref b from rk)
    obtain ⟨_, hd, xs0, rel0, dd0⟩ := dt_of I2.hok h2
    cases rel0
    have ne : b ≠ s.heap.objs.size := ne_of h1 h2 (fun z => by cases z)
    refine ⟨[(kk, b, v0)], ⟨rfl, rfl, key_of I2.hok h1, trivial⟩, dd0, fun h' tk' dd hs => wpAny_pure ⟨.ref s.heap.objs.size, _, ?_, rfl, q2⟩⟩
    obtain ⟨od, es, ep, q1, q2', q3, q4, _, q5⟩ := dd
    rw [storedAll_new [(kk, b, v0)] [] (by simp)] at q4 q5
    exact d_write I2 (by rw [h2]; exact True.intro) hs ⟨_, q1⟩ ⟨by rw [sizeLine_eq]; simp, hd, _, .cons ⟨rfl, by rw [upd_ne ne]; exact h1, rz⟩ .nil, od, es, ep, q1, q2', q3, q4, q5⟩
end L2

set_option Elab.async false
set_option linter.all false
set_option maxRecDepth 100000
set_option maxHeartbeats 4000000
namespace DL
open PySem L2
variable [TabsC]
section
variable {X : Cx} {K : PySem.W.Frag} {a b e o : Expr} {ma mb mo me mk mx mv : M} {pos cpos apos p : Pos} {k : Nat}
/-! ### x in a list of data -/
def inLD (neg : Bool) (d e : Dat) : Option Dat := match e with
  | .list l => if d.canLay0 && PyData.canLayAll0 l && decide (d.depth ≤ 60) then some (.bool (if neg then !(l.any fun z => PyData.eqv z d) else l.any fun z => PyData.eqv z d)) else none
  | _ => none
theorem r2_inL {neg : Bool} : R2M K (rInL K neg) (gSc (inLD neg)) := r2_sc fun H x y d e z hx hy h => by
  unfold inLD at h
  split at h
  · rename_i l
    split at h
    · rename_i hs
      simp only [Bool.and_eq_true, decide_eq_true_eq] at hs
      cases h
      refine ⟨_, rfl, fun Q q => ⟨d, l, hx.dp hs.1.1, hy.dp (by simpa [PyData.canLay0] using hs.1.2), hs.1.1, hs.1.2, hs.2, q⟩⟩
    · cases h
  · cases h
abbrev gInL := gSc (inLD false)
abbrev gNinL := gSc (inLD true)
theorem d_inL (c : Cok k X) (ha : PE X a (tM X.K ma)) (hb : PE X b (tM X.K mb)) (hm : behindInMarks .In b = false := by rfl) : PE X (.Compare a [.In] [b] pos) (tM X.K (mBin gInL ma mb)) := d_cmp (op_inL c.hu) r2_inL ha hb hm
theorem d_ninL (c : Cok k X) (ha : PE X a (tM X.K ma)) (hb : PE X b (tM X.K mb)) (hm : behindInMarks .NotIn b = false := by rfl) : PE X (.Compare a [.NotIn] [b] pos) (tM X.K (mBin gNinL ma mb)) := d_cmp (op_ninL c.hu) r2_inL ha hb hm
theorem dt_inL (c : Cok k X) (ha : PE X a (tM X.K ma)) (hb : PE X b (tM X.K mb)) (hm : behindInMarks .In b = false := by rfl) : PT X (.Compare a [.In] [b] pos) (tT X.K (mB (mBin gInL ma mb))) := dt_cmp (op_inL c.hu) r2_inL ha hb hm
theorem dt_ninL (c : Cok k X) (ha : PE X a (tM X.K ma)) (hb : PE X b (tM X.K mb)) (hm : behindInMarks .NotIn b = false := by rfl) : PT X (.Compare a [.NotIn] [b] pos) (tT X.K (mB (mBin gNinL ma mb))) := dt_cmp (op_ninL c.hu) r2_inL ha hb hm
/-! ### l.count(x) -/
def cntD (d e : Dat) : Option Dat := match d with
  | .list l => if e.canLay0 && PyData.canLayAll0 l && decide (e.depth ≤ 60) then some (.int (l.countP fun z => PyData.eqv z e)) else none
  | _ => none
def mCount (mo mx : M) : M := fun Γ => (mo Γ).bind fun p => match viewD p.2 p.1 with
  | some (.list _) => (mx p.2).bind fun q => gSc cntD p.1 q.1 q.2
  | _ => none
theorem d_cnt (c : Cok k X) (ho : PE X o (tM X.K mo)) (ha : PE X a (tM X.K mx)) (hbase : attributeBase o "count" X.env (eval o X.env) = eval o X.env := by rfl)
    (hfew : ((backTo cpos (starEach [a] X.env)).all (fun x => !x.1) && (backToKw cpos (keywordEach [] X.env)).all (fun x => x.1.isSome) && decide (([a] : List Expr).length + ([] : List Keyword).length + (if ([] : List Keyword).isEmpty then 0 else 1) < 30)) = true := by rfl)
    (hline : (apos.endLine == cpos.line) = true := by rfl) (hs : starEach [a] X.env = (false, eval a X.env) :: starEach [] X.env := by rfl) :
    PE X (.Call (.Attribute o "count" apos) [a] [] cpos) (tM X.K (mCount mo mx)) :=
  PE.imp (pe_bm PySem.F.plainAttrs_list PySem.F.slot_list_count PySem.F.type_list_count (mt_cntL c.hu) ho (pa_cons ha pa_nil hs) hbase hfew hline hs) fun σ H Q h => by
    obtain ⟨B, Hf, Γ, ps, r, Γ', R, ee, kk⟩ := h
    obtain ⟨⟨s1, Γ1⟩, e1, ee⟩ := bindE ee
    simp only at ee
    split at ee
    case h_2 => cases ee
    rename_i l0 hv0
    obtain ⟨⟨s2, Γ2⟩, e2, ee⟩ := bindE ee
    refine ⟨B, Hf, Γ, ps, s1, Γ1, R, e1, fun x fp Hf1 H1 ⟨f1, R1⟩ => ?_⟩
    obtain ⟨a0, xs0, ex, q0, _⟩ := R1.itemsP (p := ⟨x, s1, fp⟩) (by simp) hv0 rfl
    simp only at ex
    subst ex
    refine ⟨.inl ⟨rfl, xs0, .inl (by simpa using q0)⟩, B, Hf1, Γ1, _, s2, Γ2, ⟨f1, R1⟩, e2, fun y fp2 Hf2 H2 ⟨f2, R2⟩ => ?_⟩
    obtain ⟨d1, e4, ee⟩ := bindE ee
    obtain ⟨d2, e5, ee⟩ := bindE ee
    obtain ⟨z, e6, ee⟩ := bindE ee
    simp only [Option.some.injEq, Prod.mk.injEq] at ee
    obtain ⟨rfl, rfl⟩ := ee
    unfold cntD at e6
    split at e6
    case h_2 => cases e6
    rename_i l
    split at e6
    case isFalse => cases e6
    rename_i hs
    simp only [Bool.and_eq_true, decide_eq_true_eq] at hs
    cases e6
    have dx := R2.viewP (p := ⟨.ref a0, s1, fp⟩) (by simp) e4
    have dy := R2.viewP (p := ⟨y, s2, fp2⟩) (by simp) e5
    exact ⟨a0, y, d2, _, rfl, rfl, dx.dp (by simpa [PyData.canLay0] using hs.1.2), dy.dp hs.1.1, hs.1.1, hs.1.2, hs.2, kk _ [] Hf2 H2 ⟨f2, R2.pop.pop.pushD (.int _)⟩⟩
/-! ### min(x, y), x *= y, len of a dict -/
theorem cb2_imp {r : List V → Hp → VK → Prop} {g : Slot → Slot → Env → Option (Slot × Env)} (hr : R2M K (fun x y => r [x, y]) g) {σ : St} {H : Hp} {Q : VK} (h : tM K (mBin g ma mb) σ H Q) : tCB r (tCons (tM K ma) (tCons (tM K mb) tNil)) σ H Q := op_imp (r := fun x y => r [x, y]) hr h
abbrev gMin2 := gSc (iD fun i j => .int (if j < i then j else i))
theorem d_min2 (c : Cok k X) (ha : PE X a (tM X.K ma)) (hb : PE X b (tM X.K mb)) (hm : X.mg "min" = none) (hg : Gl X "min" := by rfl) (h1 : starEach [a, b] X.env = (false, eval a X.env) :: starEach [b] X.env := by rfl)
    (h2 : starEach [b] X.env = (false, eval b X.env) :: starEach [] X.env := by rfl) (hpl : (backTo pos (starEach [b] X.env)).any (·.1) = false := by rfl) : PE X (.Call (.Name "min" p) [a, b] [] pos) (tM X.K (mBin gMin2 ma mb)) :=
  PE.imp (pe_callB (call_min2 c.calm) hg hm (by decide +kernel) (pa_cons ha (pa_cons hb pa_nil h2) h1) (he := h1) (hpl := hpl)) fun σ H Q h => cb2_imp (r2_sc fun H x y d e z hx hy h => by
    cases hx <;> cases hy <;> simp only [iD, Option.some.injEq, reduceCtorEq] at h
    subst h
    exact ⟨_, rfl, fun Q q => ⟨_, _, rfl, q⟩⟩) h
def mAugM (i : Nat) (ma : M) : MS := fun Γ => match Γ[i]? with
  | some (.d (.int n)) => (ma Γ).bind fun p => match p.1 with
    | .d (.int z) => if mulC n z then some (.nx, p.2.set i (.d (.int (n * z)))) else none
    | _ => none
  | _ => none
theorem ds_augM (i : Nat) {x : Str} {pos' : Pos} (c : Cok k X) (ha : PE X a (tM X.K ma)) (hi : X.N[i]? = some x := by rfl) (hx : Loc X.env.scope x := by first | exact Or.inl rfl | exact Or.inr rfl)
    (hf : X.fn x = true ∨ X.env.scope.names.lookup x = some .local := by first | exact .inl rfl | exact .inr rfl) : PS X (.AugAssign (.Name x pos') .Mult a pos) (tS X.K [i] (mAugM i ma)) := PS.imp (ps_aug c.nd hi hx ha ip_mul hf) fun D σ H h => by
  obtain ⟨B, Hf, Γ, fl, Γ', ⟨f, R⟩, e, k⟩ := h
  unfold mAugM at e
  split at e
  case h_2 => cases e
  rename_i n hn
  obtain ⟨_, v, e1, q1⟩ := R.slot i _ hn
  cases q1
  have hil : i < Γ.length := (List.getElem?_eq_some_iff.mp hn).1
  obtain ⟨⟨s1, Γ1⟩, e2, e⟩ := bindE e
  refine ⟨.int n, e1, _, Hf, Γ, [], s1, Γ1, ⟨f, R.base⟩, e2, fun y fp Hf1 H1 ⟨f1, R1⟩ => ?_⟩
  obtain ⟨z, rfl⟩ : ∃ z, s1 = .d (.int z) := by
    revert e
    cases s1 with
    | d z => cases z <;> intro e <;> first | exact ⟨_, rfl⟩ | cases e
    | _ => intro e; cases e
  simp only at e
  split at e
  case isFalse => cases e
  rename_i hc
  cases e
  have q := (R1.pend _ List.mem_cons_self).2
  cases q
  refine ⟨n, z, rfl, rfl, by simpa [mulC, CMul] using hc, ?_⟩
  have R2 := R.trans (ps := []) R1.pop (.inl rfl)
  have hl1 : i < Γ1.length := by rw [← R1.len, R.len]; exact hil
  exact k _ Hf1 H1 (stay_set _ _ _) ⟨_, (R2.pushD (v := .int (n * z)) (.int _)).store hl1 rfl (by simp)⟩
theorem denK_len {H : Hp} : ∀ {ps : List (Dat × Dat)} {kvs : List (Key × V)}, DenK K H kvs ps → kvs.length = ps.length
  | _, _, .nil => rfl
  | _, _, .cons _ t => congrArg (· + 1) (denK_len t)
theorem denT_len {H : Hp} : ∀ {ps : List (Dat × Dat)} {kvs : List (List Key × V)}, DenT K H kvs ps → kvs.length = ps.length
  | _, _, .nil => rfl
  | _, _, .cons _ t => congrArg (· + 1) (denT_len t)
def lenDD : Dat → Option Dat
  | .dict ps => some (.int ps.length)
  | _ => none
theorem d_lenD (ha : PE X a (tM X.K ma)) (hm : X.mg "len" = none) (hg : Gl X "len" := by rfl) (h1 : starEach [a] X.env = (false, eval a X.env) :: starEach [] X.env := by rfl) : PE X (.Call (.Name "len" p) [a] [] pos) (tM X.K (mUn (gSc1 lenDD) ma)) :=
  PE.imp (pe_callB (call_len_dK.or call_len_dT) hg hm PySem.boot_len (pa_cons ha pa_nil h1) (he := h1)) fun σ H Q h => cb_imp (r1_sc fun H x d z hx h => by
    cases hx <;> simp only [lenDD, Option.some.injEq, reduceCtorEq] at h
    · rename_i s r
      subst h
      exact ⟨_, rfl, fun Q q => .inl ⟨_, _, rfl, s, by rw [denK_len r]; exact q⟩⟩
    · rename_i s r
      subst h
      exact ⟨_, rfl, fun Q q => .inr ⟨_, _, rfl, s, by rw [denT_len r]; exact q⟩⟩) h
end
end DL

set_option Elab.async false
set_option linter.all false
set_option maxRecDepth 100000
set_option maxHeartbeats 4000000
namespace DL
open PySem L2
variable [TabsC]
section
variable {X : Cx} {K : PySem.W.Frag} {a b e o : Expr} {ma mb mo me mk mx mv : M} {pos cpos apos p : Pos} {k : Nat}
/-! ### tuple(l), its object known -/
theorem ReachF.newZ {B : Base} {Hf H : Hp} {σ : St} {Γ : Env} {f : Nat → List Addr} {ps : List Pend} {p : Addr} {ob : Obj} {xs : List V} {ds : List Dat} (R : ReachF K B Hf H σ Γ f ps) (h : H p = none) (hc : ob.cls = .type "tuple") (hn : ob.dict = none) (d : Dens K Hf xs ds) :
    ReachF K B (upd Hf p (.frz ob (.tup xs))) (upd H p (.frz ob (.tup xs))) σ Γ f (⟨.ref p, .z ds, []⟩ :: ps) := by
  have hf : Hf p = none := Evl.fresh_back R.sub h
  exact (R.allocF h fun _ z => by cases z).push ⟨rfl, p, ob, xs, rfl, upd_same, hc, hn, d.mono (ex_upd hf)⟩ (by simp) (by simp)
def gTupZ : Slot → Env → Option (Slot × Env) := fun s Γ => (viewD Γ s).bind fun d => match d with
  | .list l => some (.z l, Γ)
  | _ => none
theorem d_tupZ (ha : PE X a (tM X.K ma)) (hm : X.mg "tuple" = none) (hg : Gl X "tuple" := by rfl) (h1 : starEach [a] X.env = (false, eval a X.env) :: starEach [] X.env := by rfl) : PE X (.Call (.Name "tuple" p) [a] [] pos) (tM X.K (mUn gTupZ ma)) :=
  PE.imp (pe_callTy call_tupZ hg hm (by decide +kernel) (pa_cons ha pa_nil h1) (he := h1)) fun σ H Q h => cb_imp (by
    intro B Hf H σ Γ ps x s fp res Γ' ⟨f, R⟩ e Q k
    obtain ⟨d, e1, e⟩ := bindE e
    cases d <;> simp only [reduceCtorEq, Option.some.injEq, Prod.mk.injEq] at e
    obtain ⟨rfl, rfl⟩ := e
    obtain ⟨a1, xs, h1, q1, dx⟩ := R.itemsP (p := ⟨x, s, fp⟩) (by simp) e1 rfl
    exact ⟨a1, xs, congrArg (fun z => [z]) h1, .inl (by simpa using q1), fun p ob hp hc hn => k _ _ _ _ ⟨f, R.pop.newZ hp hc hn dx⟩⟩) h
/-! ### dict(t) of such a tuple -/
def pairsZ : List Dat → Option (List (List Key × Dat))
  | [] => some []
  | .tuple [.tuple ks, v] :: r => (keysOf ks).bind fun k => (pairsZ r).map ((k, v) :: ·)
  | _ => none
omit [TabsC] in
theorem pairsZ_some : ∀ {ds : List Dat} {l : List (List Key × Dat)}, pairsZ ds = some l → ds = l.map pairD
  | [], _, h => by cases h; rfl
  | d :: r, l, h => by
    unfold pairsZ at h
    split at h
    · cases ‹d :: r = []›
    · rename_i ks v r' hh
      injection hh with h1 h2
      subst h1 h2
      obtain ⟨kk, e1, h⟩ := Option.bind_eq_some_iff.mp h
      obtain ⟨m, e2, rfl⟩ := Option.map_eq_some_iff.mp h
      rw [pairsZ_some e2, List.map_cons, pairD, ← keysOf_some e1]
    · cases h
def gDictZ : Slot → Env → Option (Slot × Env) := fun s Γ => match s with
  | .z ds => (pairsZ ds).bind fun l => if (l.map (·.1)).Nodup then some (.own (.tdct l), Γ) else none
  | _ => none
omit [TabsC] in
theorem rows_of {H : Hp} : ∀ {l : List (List Key × Dat)} {xs : List V}, Dens K H xs (l.map pairD) → ∃ rs : List (Addr × Addr × List Key × V), xs = rs.map (fun r => V.ref r.1) ∧ (∀ r ∈ rs, H r.1 = some (.tup [.ref r.2.1, r.2.2.2]) ∧ H r.2.1 = some (.tup (r.2.2.1.map kV))) ∧
    rs.map (·.2.2.1) = l.map (·.1) ∧ DenT K H (rs.map (·.2.2)) (datT l)
  | [], _, h => by cases h; exact ⟨[], rfl, by simp, rfl, .nil⟩
  | q :: r, _, h => by
    rw [List.map_cons] at h
    generalize hd : pairD q = d at h
    cases h with
    | cons a b =>
      obtain ⟨rs, h1, h2, h3, h4⟩ := rows_of b
      subst hd
      unfold pairD at a
      cases a with
      | tup a1 a2 =>
        cases a2 with
        | cons b1 b2 => cases b2 with
          | cons c1 c2 =>
            cases c2
            obtain ⟨ka, rfl, hk⟩ := den_key b1
            rename_i pa pv
            refine ⟨(pa, ka, q.1, pv) :: rs, by rw [h1]; rfl, fun x hx => ?_, by rw [List.map_cons, List.map_cons, h3], .cons c1 h4⟩
            rcases List.mem_cons.mp hx with rfl | hx
            · exact ⟨a1, hk⟩
            · exact h2 x hx
theorem d_dictZ (c : Cok k X) (ha : PE X a (tM X.K ma)) (hm : X.mg "dict" = none) (hg : Gl X "dict" := by rfl) (h1 : starEach [a] X.env = (false, eval a X.env) :: starEach [] X.env := by rfl) : PE X (.Call (.Name "dict" p) [a] [] pos) (tM X.K (mUn gDictZ ma)) :=
  PE.imp (pe_callTy (call_dictZ c.calm c.hu) hg hm (by decide +kernel) (pa_cons ha pa_nil h1) (he := h1)) fun σ H Q h => cb_imp (by
    intro B Hf H σ Γ ps x s fp res Γ' ⟨f, R⟩ e Q k
    cases s <;> simp only [gDictZ, reduceCtorEq] at e
    obtain ⟨l, e1, e⟩ := bindE e
    split at e
    case isFalse => cases e
    rename_i nd
    cases e
    obtain ⟨_, a1, ob, xs, h1, h2, h3, h4, h5⟩ := R.pend _ List.mem_cons_self
    simp only at h1
    subst h1
    rw [pairsZ_some e1] at h5
    obtain ⟨rs, rfl, g1, g2, g3⟩ := rows_of h5
    exact ⟨a1, ob, rs, rfl, R.sub _ _ h2, h3, h4, fun r hr => ⟨R.sub _ _ (g1 r hr).1, R.sub _ _ (g1 r hr).2⟩, by rw [g2]; exact nd, fun p hp => k _ _ _ _ ⟨f, R.pop.newDT hp g3⟩⟩) h
/-! ### e.get(k, x), e a new dict -/
def mGetO (mo mk mx : M) : M := fun Γ => (mo Γ).bind fun o => match o.1 with
  | .own (.tdct l) => (mk o.2).bind fun p => match p.1 with
    | .d (.tuple ks) => (mx p.2).bind fun q => match q.1 with
      | .d x => (keysOf ks).bind fun kk => some (.d ((findT l kk).getD x), q.2)
      | _ => none
    | _ => none
  | _ => none
theorem d_getO {ap : Pos} (c : Cok k X) (ho : PE X o (tM X.K mo)) (ha : PE X a (tM X.K mk)) (hb : PE X b (tM X.K mx)) (m : M2 X o "get" ap a b cpos := by exact ⟨rfl, rfl, rfl, rfl⟩) :
    PE X (.Call (.Attribute o "get" ap) [a, b] [] cpos) (tM X.K (mGetO mo mk mx)) := PE.imp (pe_dget2 (by have := c.hu; omega) ho ha hb m) fun σ H Q h => by
  obtain ⟨B, Hf, Γ, ps, r, Γ', R, ee, kk⟩ := h
  obtain ⟨⟨s0, Γ0⟩, e0, ee⟩ := bindE ee
  obtain ⟨l, rfl⟩ : ∃ l, s0 = .own (.tdct l) := by
    revert ee
    cases s0 with
    | own x => cases x <;> intro ee <;> first | exact ⟨_, rfl⟩ | cases ee
    | _ => intro ee; cases ee
  simp only at ee
  obtain ⟨⟨s1, Γ1⟩, e1, ee⟩ := bindE ee
  obtain ⟨ks, rfl⟩ : ∃ ks, s1 = .d (.tuple ks) := by
    revert ee
    cases s1 with
    | d x => cases x <;> intro ee <;> first | exact ⟨_, rfl⟩ | cases ee
    | _ => intro ee; cases ee
  simp only at ee
  obtain ⟨⟨s2, Γ2⟩, e2, ee⟩ := bindE ee
  obtain ⟨xd, rfl⟩ : ∃ xd, s2 = .d xd := by
    revert ee
    cases s2 with
    | d x => exact fun _ => ⟨_, rfl⟩
    | _ => intro ee; cases ee
  simp only at ee
  obtain ⟨kys, e3, ee⟩ := bindE ee
  cases ee
  refine ⟨B, Hf, Γ, ps, _, Γ0, R, e0, fun w fp2 Hf3 H3 ⟨f3, R3⟩ => ?_⟩
  obtain ⟨p, ew, efp, h3, kvs, h4, h5⟩ := R3.pend _ List.mem_cons_self
  simp only at ew
  subst ew
  refine ⟨p, rfl, .inr ⟨kvs, Rd.of h4⟩, B, Hf3, Γ0, _, _, Γ1, ⟨f3, R3⟩, e1, fun y fp Hf4 H4 R4 => ⟨B, Hf4, Γ1, _, _, _, R4, e2, fun z fp5 Hf5 H5 ⟨f5, R5⟩ => ?_⟩⟩
  have dz := (R5.pend _ List.mem_cons_self).2
  have dy := (R5.pop.pend _ List.mem_cons_self).2
  simp only at dz dy
  rw [keysOf_some e3] at dy
  obtain ⟨b', rfl, hb'⟩ := den_key dy
  obtain ⟨p', ew', _, _, kvs', h4', h5'⟩ := R5.pop.pop.pend _ List.mem_cons_self
  simp only at ew'
  cases ew'
  refine ⟨_, .inr ⟨kvs', kys, b', Rd.of h4', rfl, R5.sub _ _ hb', rfl⟩, kk _ [] Hf5 H5 ⟨f5, R5.pop.pop.pop.pushD ?_⟩⟩
  have rel := denT_find (k := kys) h5'
  generalize valV kvs' kys = ov at rel ⊢
  generalize findT l kys = od at rel ⊢
  cases rel with
  | none => exact dz
  | some h => exact h
/-! ### {k: v}, k a tuple -/
def mDisT (mk mv : M) : M := fun Γ => (mk Γ).bind fun p => match p.1 with
  | .d (.tuple ks) => (mv p.2).bind fun q => match q.1 with
    | .d x => (keysOf ks).bind fun kk => some (.own (.tdct [(kk, x)]), q.2)
    | _ => none
  | _ => none
theorem d_disT (c : Cok k X) (ha : PE X a (tM X.K mk)) (hb : PE X b (tM X.K mx)) : PE X (.Dict [some a] [b] pos) (tM X.K (mDisT mk mx)) := PE.imp (pe_disT c.hu ha hb) fun σ H Q h => by
  obtain ⟨B, Hf, Γ, ps, r, Γ', ⟨f, R⟩, ee, kk⟩ := h
  obtain ⟨⟨s1, Γ1⟩, e1, ee⟩ := bindE ee
  obtain ⟨ks, rfl⟩ : ∃ ks, s1 = .d (.tuple ks) := by
    revert ee
    cases s1 with
    | d x => cases x <;> intro ee <;> first | exact ⟨_, rfl⟩ | cases ee
    | _ => intro ee; cases ee
  simp only at ee
  obtain ⟨⟨s2, Γ2⟩, e2, ee⟩ := bindE ee
  obtain ⟨xd, rfl⟩ : ∃ xd, s2 = .d xd := by
    revert ee
    cases s2 with
    | d x => exact fun _ => ⟨_, rfl⟩
    | _ => intro ee; cases ee
  simp only at ee
  obtain ⟨kys, e3, ee⟩ := bindE ee
  cases ee
  intro p hp
  refine ⟨B, Hf, Γ, _, _, Γ1, ⟨f, R.newDT (l := []) hp .nil⟩, e1, fun y fp Hf4 H4 R4 => ⟨B, Hf4, Γ1, _, _, _, R4, e2, fun z fp5 Hf5 H5 ⟨f5, R5⟩ => ?_⟩⟩
  have dz := (R5.pend _ List.mem_cons_self).2
  have dy := (R5.pop.pend _ List.mem_cons_self).2
  simp only at dz dy
  rw [keysOf_some e3] at dy
  obtain ⟨b', rfl, hb'⟩ := den_key dy
  obtain ⟨p', ew', efp, hfn, kvs', h4', h5'⟩ := R5.pop.pop.pend _ List.mem_cons_self
  simp only at ew'
  cases ew'
  cases h5'
  have R6 : ReachF X.K B Hf5 H5 σ _ f5 (⟨.ref p, .own (.tdct []), [p]⟩ :: ps) := R5.pop.pop
  exact ⟨b', kys, rfl, R5.sub _ _ hb', h4', kk _ [p] Hf5 _ ⟨f5, R6.writeP (o' := .tdct [(kys, xd)]) ⟨rfl, hfn, _, upd_same, .cons dz .nil⟩⟩⟩
/-! ### k in d, k not in d: a dict of the frame with flat keys -/
def hasK (ps : List (Dat × Dat)) (kk : Key) : Bool := ps.any fun q => decide (keyOfD q.1 = some kk)
omit [TabsC] in
theorem keyOf_keyD {k : Key} : keyOfD (keyD k) = some k := by
  cases k <;> rfl
omit [TabsC] in
theorem denK_has {H : Hp} {kk : Key} : ∀ {ps : List (Dat × Dat)} {kvs : List (Key × V)}, DenK K H kvs ps → (valV kvs kk).isSome = hasK ps kk
  | _, _, .nil => rfl
  | _, _, .cons (k := k) (v := v) (r := r) (d := d) (ps := ps) a t => by
    have ih := denK_has (kk := kk) t
    unfold hasK at ih ⊢
    rw [List.any_cons]
    rw [keyOf_keyD]
    by_cases e : k = kk
    · rw [valV_pos (p := (k, v)) e]; simp [e]
    · rw [valV_neg (p := (k, v)) e, ih]; simp [e]
def mInK (neg : Bool) (i : Nat) (ma : M) : M := fun Γ => (ma Γ).bind fun p => match p.1, p.2[i]? with
  | .d d, some (.own (.dct ps)) => (keyOfD d).bind fun kk => some (.d (.bool (if neg then !hasK ps kk else hasK ps kk)), p.2)
  | _, _ => none
theorem inK_imp {neg : Bool} {i : Nat} {σ : St} {H : Hp} {Q : VK} (h : tM K (mInK neg i ma) σ H Q) : (fun σ H Q => tM K ma σ H fun y H1 => tM K (mVar i) σ H1 fun x H2 => ∃ a o, x = V.ref a ∧ DGet H2 a y o ∧ Q (.bl (if neg then !o.isSome else o.isSome)) H2) σ H Q := by
  obtain ⟨B, Hf, Γ, ps, r, Γ', R, ee, kk⟩ := h
  obtain ⟨⟨s1, Γ1⟩, e1, ee⟩ := bindE ee
  obtain ⟨d, rfl⟩ : ∃ xd, s1 = .d xd := by
    revert ee
    cases s1 with
    | d x => exact fun _ => ⟨_, rfl⟩
    | _ => intro ee; cases ee
  simp only at ee
  split at ee
  case h_2 => cases ee
  rename_i d' ps' hd hi
  cases hd
  obtain ⟨ky, e2, ee⟩ := bindE ee
  cases ee
  refine ⟨B, Hf, Γ, ps, _, Γ', R, e1, fun y fp Hf1 H1 R1 => ⟨B, Hf1, Γ', _, .bor i, Γ', R1, by simp only [mVar, hi], fun x fp2 Hf2 H2 ⟨f2, R2⟩ => ?_⟩⟩
  have qx := (R2.pend _ List.mem_cons_self).2
  have dy := (R2.pop.pend _ List.mem_cons_self).2
  simp only at qx dy
  obtain ⟨a1, e3, _, _, kvs, h4, h5⟩ := R2.slot i _ hi
  rw [qx] at e3
  cases e3
  have ey := kV_key (keyOfD_some e2) dy
  refine ⟨a1, valV kvs ky, rfl, .inl ⟨kvs, ky, Rd.of h4, ey, rfl⟩, ?_⟩
  rw [denK_has h5]
  exact kk _ [] Hf2 H2 ⟨f2, R2.pop.pop.pushD (.bl _)⟩
theorem d_ninK (i : Nat) {x : Str} {np : Pos} (c : Cok k X) (ha : PE X a (tM X.K ma)) (hb : PE X (.Name x np) (tM X.K (mVar i))) (hm : behindInMarks .NotIn (.Name x np) = false := by rfl) : PE X (.Compare a [.NotIn] [.Name x np] pos) (tM X.K (mInK true i ma)) :=
  PE.imp (pe_cmp (pc_dnotin (by have := c.hu; omega) ha hb) hm) fun _ _ _ h => inK_imp h
theorem dt_ninK (i : Nat) {x : Str} {np : Pos} (c : Cok k X) (ha : PE X a (tM X.K ma)) (hb : PE X (.Name x np) (tM X.K (mVar i))) (hm : behindInMarks .NotIn (.Name x np) = false := by rfl) : PT X (.Compare a [.NotIn] [.Name x np] pos) (tT X.K (mB (mInK true i ma))) :=
  PT.imp (pt_cmp (pc_dnotin (by have := c.hu; omega) ha hb) hm) fun _ _ _ => b_imp fun _ _ _ h => inK_imp h
theorem d_inK (i : Nat) {x : Str} {np : Pos} (c : Cok k X) (ha : PE X a (tM X.K ma)) (hb : PE X (.Name x np) (tM X.K (mVar i))) (hm : behindInMarks .In (.Name x np) = false := by rfl) : PE X (.Compare a [.In] [.Name x np] pos) (tM X.K (mInK false i ma)) :=
  PE.imp (pe_cmp (pc_din (by have := c.hu; omega) ha hb) hm) fun _ _ _ h => inK_imp h
theorem dt_inK (i : Nat) {x : Str} {np : Pos} (c : Cok k X) (ha : PE X a (tM X.K ma)) (hb : PE X (.Name x np) (tM X.K (mVar i))) (hm : behindInMarks .In (.Name x np) = false := by rfl) : PT X (.Compare a [.In] [.Name x np] pos) (tT X.K (mB (mInK false i ma))) :=
  PT.imp (pt_cmp (pc_din (by have := c.hu; omega) ha hb) hm) fun _ _ _ => b_imp fun _ _ _ h => inK_imp h
end
end DL

set_option Elab.async false
set_option linter.all false
set_option maxRecDepth 100000
set_option maxHeartbeats 4000000
namespace DL
open PySem
/-! what the readings compute, as rewriting -/
section
variable {Γ : Env}
@[simp] theorem ev_C (d : Dat) : mC d Γ = some (.d d, Γ) := rfl
@[simp] theorem ev_Bin (g) (a b : M) : mBin g a b Γ = (a Γ).bind fun p => (b p.2).bind fun q => g p.1 q.1 q.2 := rfl
@[simp] theorem ev_Un (g) (a : M) : mUn g a Γ = (a Γ).bind fun p => g p.1 p.2 := rfl
@[simp] theorem ev_viewd (d : Dat) : viewD Γ (.d d) = some d := rfl
@[simp] theorem ev_viewo (o : Own) : viewD Γ (.own o) = some o.dat := rfl
@[simp] theorem ev_datl (l : List Dat) : (Own.lst l).dat = .list l := rfl
@[simp] theorem ev_datd (l : List (Dat × Dat)) : (Own.dct l).dat = .dict l := rfl
@[simp] theorem ev_setd (d : Dat) : settle Γ (.d d) = some (d, Γ) := rfl
@[simp] theorem ev_seto (o : Own) : settle Γ (.own o) = some (o.dat, Γ) := rfl
@[simp] theorem ev_seql (l : List Dat) : seqOf (.list l) = some (true, l) := rfl
@[simp] theorem ev_seqt (l : List Dat) : seqOf (.tuple l) = some (false, l) := rfl
@[simp] theorem ev_Tup (md : MD) : mTup md Γ = (md Γ).bind fun p => if p.1.length ≤ lim then some (.d (.tuple p.1), p.2) else none := rfl
@[simp] theorem ev_Lst (md : MD) : mLst md Γ = (md Γ).bind fun p => if p.1.length ≤ lim then some (.own (.lst p.1), p.2) else none := rfl
@[simp] theorem ev_D0 : mD0 Γ = some ([], Γ) := rfl
@[simp] theorem ev_Dc (m : M) (r : MD) : mDc m r Γ = (m Γ).bind fun p => (settle p.2 p.1).bind fun q => (r q.2).bind fun t => some (q.1 :: t.1, t.2) := rfl
@[simp] theorem ev_Ds (m : M) (r : MD) : mDs m r Γ = (m Γ).bind fun p => (settle p.2 p.1).bind fun q => (seqOf q.1).bind fun l => if l.2.length ≤ lim then (r q.2).bind fun t => some (l.2 ++ t.1, t.2) else none := rfl
@[simp] theorem ev_mB (m : M) : mB m Γ = (m Γ).bind fun p => match p.1 with | .d (.bool b) => some (b, p.2) | _ => none := rfl
@[simp] theorem ev_AndT (a b : MT) : mAndT a b Γ = (a Γ).bind fun p => if p.1 then b p.2 else some (false, p.2) := rfl
@[simp] theorem ev_OrT (a b : MT) : mOrT a b Γ = (a Γ).bind fun p => if p.1 then some (true, p.2) else b p.2 := rfl
@[simp] theorem ev_NotT (a : MT) : mNotT a Γ = (a Γ).bind fun p => some (!p.1, p.2) := rfl
@[simp] theorem ev_AndV (a b : M) : mAndV a b Γ = (mB a Γ).bind fun p => if p.1 then b p.2 else some (.d (.bool false), p.2) := rfl
@[simp] theorem ev_OrV (a b : M) : mOrV a b Γ = (mB a Γ).bind fun p => if p.1 then some (.d (.bool true), p.2) else b p.2 := rfl
@[simp] theorem ev_NotV (a : M) : mNotV a Γ = (mB a Γ).bind fun p => some (.d (.bool (!p.1)), p.2) := rfl
@[simp] theorem ev_If (t : MT) (a b : M) : mIf t a b Γ = (t Γ).bind fun p => if p.1 then a p.2 else b p.2 := rfl
@[simp] theorem ev_Tru (a : M) : mTru a Γ = (a Γ).bind fun p => (viewD p.2 p.1).bind fun d => (truD d).bind fun b => some (b, p.2) := rfl
@[simp] theorem ev_Yes : mYes Γ = some (true, Γ) := rfl
@[simp] theorem ev_Seq (a b : MS) : mSeq a b Γ = (a Γ).bind fun p => match p.1 with | .nx => b p.2 | f => some (f, p.2) := rfl
@[simp] theorem ev_Next : mNext Γ = some (.nx, Γ) := rfl
@[simp] theorem ev_Drop (m : M) : mDrop m Γ = (m Γ).bind fun p => some (.nx, p.2) := rfl
@[simp] theorem ev_Set (g : MG) (m : M) : mSet g m Γ = (m Γ).bind fun p => (g p.1 p.2).bind fun Γ' => some (.nx, Γ') := rfl
@[simp] theorem ev_IfS (t : MT) (a b : MS) : mIfS t a b Γ = (t Γ).bind fun p => if p.1 then a p.2 else b p.2 := rfl
@[simp] theorem ev_Ret (n : Nat) (m : M) : mRet n m Γ = (m Γ).bind fun p => (outS n p.1 p.2).bind fun q => some (.ret q.1, q.2) := rfl
@[simp] theorem ev_outd (n : Nat) (d : Dat) : outS n (.d d) Γ = some (.d d, Γ) := rfl
@[simp] theorem ev_outo (n : Nat) (o : Own) : outS n (.own o) Γ = some (.own o, Γ) := rfl
@[simp] theorem ev_A0 : mA0 Γ = some ([], Γ) := rfl
@[simp] theorem ev_Ac (m : M) (r : MA) : mAc m r Γ = (m Γ).bind fun p => (r p.2).bind fun q => some (p.1 :: q.1, q.2) := rfl
@[simp] theorem ev_argd (d : Dat) : argS Γ (.d d) = some (.d d) := rfl
@[simp] theorem ev_argo (o : Own) : argS Γ (.own o) = some (.own o) := rfl
@[simp] theorem ev_args0 : argsS Γ [] = some [] := rfl
@[simp] theorem ev_argsc (s : Slot) (r : List Slot) : argsS Γ (s :: r) = (argS Γ s).bind fun t => (argsS Γ r).bind fun q => some (t :: q) := rfl
@[simp] theorem ev_bix0 : borIx [] = [] := rfl
@[simp] theorem ev_bixd (d : Dat) (r) : borIx (.d d :: r) = borIx r := rfl
@[simp] theorem ev_bixo (o : Own) (r) : borIx (.own o :: r) = borIx r := rfl
@[simp] theorem ev_bixb (i : Nat) (r) : borIx (.bor i :: r) = i :: borIx r := rfl
@[simp] theorem ev_back0 (t) : backS Γ [] t = Γ := by cases t <;> rfl
@[simp] theorem ev_backd (d : Dat) (r t q) : backS Γ (.d d :: r) (t :: q) = backS Γ r q := rfl
@[simp] theorem ev_backo (o : Own) (r t q) : backS Γ (.own o :: r) (t :: q) = backS Γ r q := rfl
@[simp] theorem ev_backb (i : Nat) (r t q) : backS Γ (.bor i :: r) (t :: q) = backS (Γ.set i t) r q := rfl
@[simp] theorem ev_keepd (d : Dat) : keepable (.d d) = true := rfl
@[simp] theorem ev_keepo (o : Own) : keepable (.own o) = true := rfl
theorem ev_Call (n : Nat) (F : FS) (ma : MA) : mCall n F ma Γ = (ma Γ).bind fun p => (argsS p.2 p.1).bind fun args => if p.1.length = n ∧ (borIx p.1).Nodup then (F args).bind fun q => if keepable q.1 = true ∧ q.2.length = args.length then some (q.1, backS p.2 p.1 q.2) else none else none := rfl
@[simp] theorem ev_O0 : mO0 Γ = some (none, Γ) := rfl
@[simp] theorem ev_O1 (m : M) : mO1 m Γ = (m Γ).bind fun p => match p.1 with | .d (.int i) => some (some i, p.2) | _ => none := rfl
@[simp] theorem ev_Sl (a : M) (l h : MO) : mSl a l h Γ = (a Γ).bind fun p => (l p.2).bind fun q => (h q.2).bind fun t => (viewD t.2 p.1).bind fun d => match d with
  | .list l => if l.length ≤ lim then some (.own (.lst (cutL l q.1 t.1)), t.2) else none
  | .tuple l => some (.d (.tuple (cutL l q.1 t.1)), t.2)
  | _ => none := rfl
@[simp] theorem ev_Isi (t : Ty) (m : M) : mIsi t m Γ = (m Γ).bind fun p => (viewD p.2 p.1).bind fun d => some (.d (.bool (isTy t d)), p.2) := rfl
@[simp] theorem ev_Isi2 (t u : Ty) (m : M) : mIsi2 t u m Γ = (m Γ).bind fun p => (viewD p.2 p.1).bind fun d => some (.d (.bool (isTy t d || isTy u d)), p.2) := rfl
@[simp] theorem ev_Val (t : MT) : mVal t Γ = (t Γ).bind fun p => some (.d (.bool p.1), p.2) := rfl
@[simp] theorem ev_Dict0 : mDict0 Γ = some (.own (.dct []), Γ) := rfl
/-- names -/
theorem ev_vd {i : Nat} {d : Dat} (h : Γ[i]? = some (.d d)) : mVar i Γ = some (.d d, Γ) := by unfold mVar; rw [h]
theorem ev_vo {i : Nat} {o : Own} (h : Γ[i]? = some (.own o)) : mVar i Γ = some (.bor i, Γ) := by unfold mVar; rw [h]
@[simp] theorem ev_var (i : Nat) : mVar i Γ = match Γ[i]? with | some (.d x) => some (.d x, Γ) | some (.own _) => some (.bor i, Γ) | some (.fn a) => some (.fn a, Γ) | _ => none := rfl
@[simp] theorem ev_viewb (i : Nat) : viewD Γ (.bor i) = match Γ[i]? with | some (.own o) => some o.dat | some (.d x) => some x | _ => none := rfl
@[simp] theorem ev_setb (i : Nat) : settle Γ (.bor i) = match Γ[i]? with | some (.own o) => some (o.dat, Γ.set i (.d o.dat)) | some (.d x) => some (x, Γ) | _ => none := rfl
@[simp] theorem ev_argb (i : Nat) : argS Γ (.bor i) = match Γ[i]? with | some (.own o) => some (.own o) | some (.d x) => some (.d x) | _ => none := rfl
@[simp] theorem ev_outb (n i : Nat) : outS n (.bor i) Γ = match Γ[i]? with | some (.own o) => if n ≤ i then some (.own o, Γ.set i .no) else some (.d o.dat, Γ.set i (.d o.dat)) | some (.d x) => some (.d x, Γ) | _ => none := rfl
@[simp] theorem ev_setS (i : Nat) (s : Slot) : setS i s Γ = if i < Γ.length then (match s with | .d x => some (Γ.set i (.d x)) | .own o => some (Γ.set i (.own o)) | .fn a => some (Γ.set i (.fn a)) | .bor j => (settle Γ (.bor j)).bind fun q => some (q.2.set i (.d q.1)) | .no => none | .z _ => none) else none := rfl
@[simp] theorem ev_setN : setN [] Γ = some Γ := rfl
@[simp] theorem ev_setC (g : MG) (gs : MGs) (d : Dat) (r : List Dat) : setC g gs (d :: r) Γ = (g (.d d) Γ).bind fun Γ1 => gs r Γ1 := rfl
@[simp] theorem ev_setT (n : Nat) (gs : MGs) (l : List Dat) : setT n gs (.d (.tuple l)) Γ = if l.length = n then gs l Γ else none := rfl
/-- operations -/
@[simp] theorem ev_gSc (g : Dat → Dat → Option Dat) (s1 s2 : Slot) : gSc g s1 s2 Γ = (viewD Γ s1).bind fun d => (viewD Γ s2).bind fun e => (g d e).bind fun z => some (.d z, Γ) := rfl
@[simp] theorem ev_gSc1 (g : Dat → Option Dat) (s : Slot) : gSc1 g s Γ = (viewD Γ s).bind fun d => (g d).bind fun z => some (.d z, Γ) := rfl
@[simp] theorem ev_iD (g : Int → Int → Dat) (i j : Int) : iD g (.int i) (.int j) = some (g i j) := rfl
@[simp] theorem ev_iDC (C : Int → Int → Bool) (g : Int → Int → Dat) (i j : Int) : iDC C g (.int i) (.int j) = if C i j then some (g i j) else none := rfl
@[simp] theorem ev_lenl (l : List Dat) : lenD (.list l) = some (.int l.length) := rfl
@[simp] theorem ev_lent (l : List Dat) : lenD (.tuple l) = some (.int l.length) := rfl
@[simp] theorem ev_intD (i : Int) : intD (.int i) = some (.int i) := rfl
@[simp] theorem ev_absD (i : Int) : absD (.int i) = some (.int (if i < 0 then -i else i)) := rfl
@[simp] theorem ev_negD (i : Int) : negD (.int i) = some (.int (-i)) := rfl
theorem ev_ix {l : List Dat} {i : Int} {d z : Dat} {b : Bool} {s1 s2 : Slot} (h1 : viewD Γ s1 = some d) (h2 : seqOf d = some (b, l)) (h3 : viewD Γ s2 = some (.int i)) (h : L2.atI l i = some z) : gIx s1 s2 Γ = some (.d z, Γ) := by
  unfold gIx
  simp [h1, h2, h3, h]
@[simp] theorem ev_gTuple (s : Slot) : gTuple s Γ = (viewD Γ s).bind fun d => match d with | .list l => some (.d (.tuple l), Γ) | .tuple l => some (.d (.tuple l), Γ) | _ => none := rfl
@[simp] theorem ev_gList (s : Slot) : gList s Γ = (viewD Γ s).bind fun d => (seqOf d).bind fun p => some (.own (.lst p.2), Γ) := rfl
@[simp] theorem ev_SetIx (i : Nat) (mi mv : M) : mSetIx i mi mv Γ = (mv Γ).bind fun p => (settle p.2 p.1).bind fun q => match q.2[i]? with
  | some (.own _) => (mi q.2).bind fun t => match t.1, t.2[i]? with
    | .d (.int n), some (.own (.lst l)) => (L2.ixN l.length n).bind fun j => some (.nx, t.2.set i (.own (.lst (l.set j q.1))))
    | _, _ => none
  | _ => none := rfl
@[simp] theorem ev_AugIx (i : Nat) (g : Int → Int → Int) (mi me : M) : mAugIx i g mi me Γ = match Γ[i]? with
  | some (.own _) => (mi Γ).bind fun t => match t.1, t.2[i]? with
    | .d (.int n), some (.own (.lst l)) => (L2.atI l n).bind fun z => (me t.2).bind fun u => match z, u.1, u.2[i]? with
      | .int z, .d (.int y), some (.own (.lst l2)) => (L2.ixN l2.length n).bind fun j => some (.nx, u.2.set i (.own (.lst (l2.set j (.int (g z y))))))
      | _, _, _ => none
    | _, _ => none
  | _ => none := rfl
@[simp] theorem ev_App (i : Nat) (me : M) : mApp i me Γ = match Γ[i]? with
  | some (.own (.lst _)) => (me Γ).bind fun p => (settle p.2 p.1).bind fun q => match q.2[i]? with
    | some (.own (.lst l)) => if l.length < lim then some (.d .none, q.2.set i (.own (.lst (l ++ [q.1])))) else none
    | _ => none
  | _ => none := rfl
@[simp] theorem ev_Ext (i : Nat) (me : M) : mExt i me Γ = match Γ[i]? with
  | some (.own (.lst _)) => (me Γ).bind fun p => match p.1, p.2[i]? with
    | .own (.lst l2), some (.own (.lst l)) => if l.length + l2.length ≤ lim then some (.d .none, p.2.set i (.own (.lst (l ++ l2)))) else none
    | _, _ => none
  | _ => none := rfl
@[simp] theorem ev_Chain (g g2 : Slot → Slot → MT) (a b c : M) : mChain g g2 a b c Γ = (a Γ).bind fun p => (b p.2).bind fun q => (g p.1 q.1 q.2).bind fun t => if t.1 then (c t.2).bind fun u => g2 q.1 u.1 u.2 else some (false, t.2) := rfl
@[simp] theorem ev_cmpI (f : Int → Int → Bool) (i j : Int) : cmpI f (.d (.int i)) (.d (.int j)) Γ = some (f i j, Γ) := rfl
@[simp] theorem ixN4_0 : L2.ixN 4 0 = some 0 := rfl
@[simp] theorem ixN4_1 : L2.ixN 4 1 = some 1 := rfl
@[simp] theorem ixN4_2 : L2.ixN 4 2 = some 2 := rfl
@[simp] theorem lim_eq : lim = 1000000 := rfl
@[simp] theorem ev_eqii (i j : Int) : eqD (.int i) (.int j) = some (.bool (decide (i = j))) := by
  have h : (SeqAt.shaped (.int i) && SeqAt.shaped (.int j)) = true := by simp [SeqAt.shaped, PyData.canLay0, PyData.depth]
  have e : PyData.eqv (.int i) (.int j) = decide (i = j) := by
    rw [PyData.eqv]
    by_cases q : i = j <;> simp [q]
  unfold eqD
  rw [if_pos h, e]
@[simp] theorem ev_neii (i j : Int) : neD (.int i) (.int j) = some (.bool (!decide (i = j))) := by
  have h := ev_eqii i j
  unfold eqD at h
  unfold neD
  split at h
  · rename_i q
    rw [if_pos q]
    simp only [Option.some.injEq, PyData.bool.injEq] at h
    rw [h]
  · cases h
@[simp] theorem ev_gIx (s1 s2 : Slot) : gIx s1 s2 Γ = (viewD Γ s1).bind fun d => (seqOf d).bind fun p => (viewD Γ s2).bind fun e => match e with
  | .int i => (L2.atI p.2 i).bind fun z => some (.d z, Γ)
  | _ => none := rfl
@[simp] theorem ev_gAdd (s1 s2 : Slot) : gAdd s1 s2 Γ = (viewD Γ s1).bind fun d => (viewD Γ s2).bind fun e => match d, e with
  | .int i, .int j => some (.d (.int (i + j)), Γ)
  | .str x, .str y => if x.length + y.length ≤ lim then some (.d (.str (x ++ y)), Γ) else none
  | .list l, .list l2 => if l.length + l2.length ≤ lim then some (.own (.lst (l ++ l2)), Γ) else none
  | .tuple l, .tuple l2 => if l.length + l2.length ≤ lim then some (.d (.tuple (l ++ l2)), Γ) else none
  | _, _ => none := rfl
@[simp] theorem ev_gMul (s1 s2 : Slot) : gMul s1 s2 Γ = (viewD Γ s1).bind fun d => (viewD Γ s2).bind fun e => match d, e with
  | .int i, .int j => if mulC i j then some (.d (.int (i * j)), Γ) else none
  | .tuple l, .int j => if l ≠ [] ∧ 2 ≤ j ∧ j ≤ 1000 ∧ l.length ≤ 1000 then some (.d (.tuple (List.replicate j.toNat l).flatten), Γ) else none
  | _, _ => none := rfl
/-- def's frames -/
theorem ev_run {n N : Nat} {W : List Nat} {m : MS} {args : List Slot} {r : Slot} {Γ' : Env} (h1 : args.length = n) (h2 : okAsg W 0 args = true) (h3 : m (args ++ List.replicate (N - n) .no) = some (.ret r, Γ')) (h4 : keepable r = true) :
    runF n N W m args = some (r, pickF W 0 args Γ') := by
  unfold runF
  rw [if_pos ⟨h1, h2⟩, h3]
  simp [h4]
theorem ev_runx {n N : Nat} {W : List Nat} {m : MS} {args out : List Slot} {r : Slot} (Γ' : Env) (h3 : m (args ++ List.replicate (N - n) .no) = some (.ret r, Γ')) (h4 : keepable r = true := by rfl) (h1 : args.length = n := by rfl) (h2 : okAsg W 0 args = true := by rfl) (h5 : pickF W 0 args Γ' = out := by rfl) :
    runF n N W m args = some (r, out) := h5 ▸ ev_run h1 h2 h3 h4
@[simp] theorem ev_pick0 (W : List Nat) (i : Nat) : pickF W i [] Γ = [] := rfl
@[simp] theorem ev_pickc (W : List Nat) (i : Nat) (a : Slot) (r : List Slot) : pickF W i (a :: r) Γ = (if i ∈ W then a else Γ.getD i .no) :: pickF W (i + 1) r Γ := rfl
@[simp] theorem ev_asg0 (W : List Nat) (i : Nat) : okAsg W i [] = true := rfl
@[simp] theorem ev_asgc (W : List Nat) (i : Nat) (a : Slot) (r : List Slot) : okAsg W i (a :: r) = ((!decide (i ∈ W) || noOwn a) && okAsg W (i + 1) r) := rfl
theorem atI_nat {l : List Dat} {i : Nat} {z : Dat} (h : l[i]? = some z) : L2.atI l (i : Int) = some z := by
  have hl := (List.getElem?_eq_some_iff.mp h).1
  unfold L2.atI L2.ixN
  rw [if_pos (by omega), if_pos (by omega)]
  simpa using h
end
section
variable {a b c d e : Dat} {l : List Dat}
@[simp] theorem at0 : L2.atI (a :: l) 0 = some a := atI_nat (i := 0) rfl
@[simp] theorem at1 : L2.atI (a :: b :: l) 1 = some b := atI_nat (i := 1) rfl
@[simp] theorem at2 : L2.atI (a :: b :: c :: l) 2 = some c := atI_nat (i := 2) rfl
@[simp] theorem at3 : L2.atI (a :: b :: c :: d :: l) 3 = some d := atI_nat (i := 3) rfl
end
/-! ### comprehensions -/
def lcStep (g : MG) (mt : MT) (me : M) (vs : List Nat) (x : Dat) (Γ : Env) : Option (Option Dat × Env) := (g (.d x) Γ).bind fun Γ1 => (mt Γ1).bind fun p => if p.1 then
      (me p.2).bind fun q => (settle q.2 q.1).bind fun s => some (some s.1, wipeE s.2 vs)
    else some (none, wipeE p.2 vs)
theorem lcL_cons {g : MG} {mt : MT} {me : M} {vs : List Nat} {x : Dat} {xs acc : List Dat} {Γ : Env} : lcL g mt me vs (x :: xs) acc Γ = (lcStep g mt me vs x Γ).bind fun r => match r.1 with
    | some d => if acc.length < lim then lcL g mt me vs xs (acc ++ [d]) r.2 else none
    | none => lcL g mt me vs xs acc r.2 := by
  unfold lcStep
  rw [lcL]
  cases g (.d x) Γ with
  | none => rfl
  | some Γ1 =>
    simp only [Option.bind_some]
    cases mt Γ1 with
    | none => rfl
    | some p =>
      simp only [Option.bind_some]
      cases p.1 with
      | false => simp
      | true =>
        simp only [if_true]
        cases me p.2 with
        | none => rfl
        | some q =>
          simp only [Option.bind_some]
          cases settle q.2 q.1 with
          | none => rfl
          | some s => rfl
/-- each turn leaves the frame as it was -/
theorem lcL_pure {α : Type} {g : MG} {mt : MT} {me : M} {vs : List Nat} {Γ : Env} (enc : α → Dat) (f : α → Option Dat) : ∀ {ts : List α} {acc : List Dat}, (∀ t ∈ ts, lcStep g mt me vs (enc t) Γ = some (f t, Γ)) → acc.length + ts.length ≤ lim →
    lcL g mt me vs (ts.map enc) acc Γ = some (acc ++ ts.filterMap f, Γ)
  | [], acc, _, _ => by simp [lcL]
  | t :: ts, acc, h, hl => by
    rw [List.map_cons, lcL_cons, h t (by simp)]
    simp only [List.length_cons] at hl
    simp only [Option.bind_some]
    cases hf : f t with
    | none =>
      simp only
      rw [lcL_pure enc f (fun t ht => h t (List.mem_cons_of_mem _ ht)) (by omega), List.filterMap_cons_none hf]
    | some d =>
      simp only
      rw [if_pos (by omega), lcL_pure enc f (fun t ht => h t (List.mem_cons_of_mem _ ht)) (by rw [List.length_append, List.length_singleton]; omega), List.filterMap_cons_some hf]
      simp
theorem putE_wipe {Γ : Env} {vs : List Nat} : putE (wipeE Γ vs) Γ vs = Γ := by
  letI : TabsC := ⟨[]⟩
  have hlen : (putE (wipeE Γ vs) Γ vs).length = Γ.length := by rw [putE_len, wipeE_len]
  refine List.ext_getElem hlen fun i h1 h2 => ?_
  have e : (putE (wipeE Γ vs) Γ vs)[i]? = some (putE (wipeE Γ vs) Γ vs)[i] := List.getElem?_eq_getElem h1
  have key : Γ[i]? = some (putE (wipeE Γ vs) Γ vs)[i] := by
    rcases putE_get e with ⟨q1, q2⟩ | ⟨_, q2⟩
    · rcases q1 with q1 | q1
      · rcases wipeE_get q2 with ⟨_, q3⟩ | ⟨q3, _⟩
        · exact q3
        · exact absurd q3 q1
      · rw [List.getElem?_eq_getElem h2] at q1; cases q1
    · exact q2
  rw [List.getElem?_eq_getElem h2] at key
  exact (Option.some.inj key).symm
theorem lc_pure {α : Type} {mi : MI} {g : MG} {mt : MT} {me : M} {vs : List Nat} {Γ : Env} {ts : List α} (enc : α → Dat) (f : α → Option Dat) (hi : mi Γ = some (ts.map enc, Γ)) (hp : plainAt Γ vs = true)
    (h : ∀ t ∈ ts, lcStep g mt me vs (enc t) (wipeE Γ vs) = some (f t, wipeE Γ vs)) (hl : ts.length ≤ lim) : mLc mi g mt me vs Γ = some (.own (.lst (ts.filterMap f)), Γ) := by
  unfold mLc
  rw [hi]
  simp only [Option.bind_some, hp, if_true]
  rw [lcL_pure enc f h (by simpa using hl)]
  simp [putE_wipe]
/-- each turn keeps P, what comes of it is told by R -/
theorem lcL_inv {α : Type} {g : MG} {mt : MT} {me : M} {vs : List Nat} (enc : α → Dat) (P : Env → Prop) (R : α → Option Dat → Prop) : ∀ {ts : List α} {acc : List Dat} {Γ : Env}, P Γ →
    (∀ t ∈ ts, ∀ Γ, P Γ → ∃ o Γ', lcStep g mt me vs (enc t) Γ = some (o, Γ') ∧ P Γ' ∧ R t o) → acc.length + ts.length ≤ lim →
    ∃ os Γ', lcL g mt me vs (ts.map enc) acc Γ = some (acc ++ os.filterMap id, Γ') ∧ P Γ' ∧ PySem.W.EachIs R ts os
  | [], acc, Γ, hP, _, _ => ⟨[], Γ, by simp [lcL], hP, .nil⟩
  | t :: ts, acc, Γ, hP, h, hl => by
    obtain ⟨o, Γ1, e1, hP1, hR⟩ := h t (by simp) Γ hP
    simp only [List.length_cons] at hl
    rw [List.map_cons, lcL_cons, e1]
    simp only [Option.bind_some]
    cases o with
    | none =>
      obtain ⟨os, Γ2, e2, hP2, hR2⟩ := lcL_inv enc P R (acc := acc) hP1 (fun t ht => h t (List.mem_cons_of_mem _ ht)) (by omega)
      exact ⟨none :: os, Γ2, by simpa using e2, hP2, .cons hR hR2⟩
    | some d =>
      obtain ⟨os, Γ2, e2, hP2, hR2⟩ := lcL_inv enc P R (acc := acc ++ [d]) hP1 (fun t ht => h t (List.mem_cons_of_mem _ ht)) (by rw [List.length_append, List.length_singleton]; omega)
      refine ⟨some d :: os, Γ2, ?_, hP2, .cons hR hR2⟩
      simp only
      rw [if_pos (by omega), e2]
      simp
theorem lc_inv {α : Type} {mi : MI} {g : MG} {mt : MT} {me : M} {vs : List Nat} {Γ Γ0 : Env} {ts : List α} (enc : α → Dat) (P : Env → Prop) (R : α → Option Dat → Prop) (hi : mi Γ = some (ts.map enc, Γ0)) (hp : plainAt Γ0 vs = true) (h0 : P (wipeE Γ0 vs))
    (h : ∀ t ∈ ts, ∀ Γ, P Γ → ∃ o Γ', lcStep g mt me vs (enc t) Γ = some (o, Γ') ∧ P Γ' ∧ R t o) (hl : ts.length ≤ lim) :
    ∃ os Γ', mLc mi g mt me vs Γ = some (.own (.lst (os.filterMap id)), putE Γ' Γ0 vs) ∧ P Γ' ∧ PySem.W.EachIs R ts os := by
  obtain ⟨os, Γ', e, hP, hR⟩ := lcL_inv (acc := []) enc P R h0 h (by simpa using hl)
  refine ⟨os, Γ', ?_, hP, hR⟩
  unfold mLc
  rw [hi]
  simp only [Option.bind_some, hp, if_true, e]
  simp
/-- loops whose turns keep P and never leave -/
def forStep (g : MG) (mb : MS) (x : Dat) (Γ : Env) : Option (Flw × Env) := (g (.d x) Γ).bind fun Γ1 => mb Γ1
theorem forL_inv {α : Type} {g : MG} {mb : MS} (enc : α → Dat) (P : Env → Prop) : ∀ {ts : List α} {Γ : Env}, P Γ → (∀ t ∈ ts, ∀ Γ, P Γ → ∃ Γ', forStep g mb (enc t) Γ = some (.nx, Γ') ∧ P Γ') →
    ∃ Γ', forL g mb (ts.map enc) Γ = some (.nx, Γ') ∧ P Γ'
  | [], Γ, hP, _ => ⟨Γ, by simp [forL], hP⟩
  | t :: ts, Γ, hP, h => by
    obtain ⟨Γ1, e1, hP1⟩ := h t (by simp) Γ hP
    obtain ⟨Γ2, e2, hP2⟩ := forL_inv enc P hP1 fun t ht => h t (List.mem_cons_of_mem _ ht)
    refine ⟨Γ2, ?_, hP2⟩
    rw [List.map_cons, forL]
    unfold forStep at e1
    cases hg : g (.d (enc t)) Γ with
    | none => rw [hg] at e1; cases e1
    | some Γ3 =>
      rw [hg] at e1
      simp only [Option.bind_some] at e1 ⊢
      rw [e1]
      simpa using e2
/-- loops that gather: S is what is gathered -/
theorem forL_acc {α σ : Type} {g : MG} {mb : MS} (enc : α → Dat) (P : σ → Env → Prop) (f : σ → α → σ) : ∀ {ts : List α} {s : σ} {Γ : Env}, P s Γ → (∀ s, ∀ t ∈ ts, ∀ Γ, P s Γ → ∃ Γ', forStep g mb (enc t) Γ = some (.nx, Γ') ∧ P (f s t) Γ') →
    ∃ Γ', forL g mb (ts.map enc) Γ = some (.nx, Γ') ∧ P (ts.foldl f s) Γ'
  | [], s, Γ, hP, _ => ⟨Γ, by simp [forL], hP⟩
  | t :: ts, s, Γ, hP, h => by
    obtain ⟨Γ1, e1, hP1⟩ := h s t (by simp) Γ hP
    obtain ⟨Γ2, e2, hP2⟩ := forL_acc enc P f hP1 fun s t ht => h s t (List.mem_cons_of_mem _ ht)
    refine ⟨Γ2, ?_, hP2⟩
    rw [List.map_cons, forL]
    unfold forStep at e1
    cases hg : g (.d (enc t)) Γ with
    | none => rw [hg] at e1; cases e1
    | some Γ3 =>
      rw [hg] at e1
      simp only [Option.bind_some] at e1 ⊢
      rw [e1]
      simpa using e2
@[simp] theorem ev_For (mi : MI) (g : MG) (mb : MS) (Γ : Env) : mFor mi g mb Γ = (mi Γ).bind fun p => forL g mb p.1 p.2 := rfl
@[simp] theorem ev_SeqI (m : M) (Γ : Env) : mSeqI m Γ = (m Γ).bind fun p => (settle p.2 p.1).bind fun q => (seqOf q.1).bind fun l => some (l.2, q.2) := rfl
@[simp] theorem ev_Enum (m : M) (Γ : Env) : mEnum m Γ = (m Γ).bind fun p => (settle p.2 p.1).bind fun q => (seqOf q.1).bind fun l => some (enumL l.2, q.2) := rfl
@[simp] theorem ev_Range1 (m : M) (Γ : Env) : mRange1 m Γ = (m Γ).bind fun p => match p.1 with | .d (.int n) => if -(2 ^ 62) ≤ n ∧ n < 2 ^ 62 then some (rngD 0 n, p.2) else none | _ => none := rfl
@[simp] theorem ev_wipe0 (Γ : Env) : wipeE Γ [] = Γ := rfl
@[simp] theorem ev_wipec (Γ : Env) (v : Nat) (vs : List Nat) : wipeE Γ (v :: vs) = (wipeE Γ vs).set v .no := rfl
@[simp] theorem ev_put0 (Γ Γ0 : Env) : putE Γ Γ0 [] = Γ := rfl
@[simp] theorem ev_putc (Γ Γ0 : Env) (v : Nat) (vs : List Nat) : putE Γ Γ0 (v :: vs) = match Γ0[v]? with | some g => (putE Γ Γ0 vs).set v g | none => putE Γ Γ0 vs := rfl
def rngI (n : Int) : List Int := (List.range n.toNat).map fun (i : Nat) => (i : Int)
theorem rngD_eq (n : Int) : rngD 0 n = (rngI n).map PyData.int := by
  unfold rngD rngI
  rw [List.map_map, Int.sub_zero]
  refine List.map_congr_left fun i _ => ?_
  simp
theorem rngI_mem {n x : Int} : x ∈ rngI n ↔ 0 ≤ x ∧ x < n := by
  unfold rngI
  simp only [List.mem_map, List.mem_range]
  constructor
  · rintro ⟨i, h, rfl⟩
    omega
  · rintro ⟨h1, h2⟩
    exact ⟨x.toNat, by omega, by omega⟩
theorem rngI_len (n : Int) : (rngI n).length = n.toNat := by simp [rngI]
theorem shp_ints (l : List Int) : SeqAt.shaped (.list (l.map PyData.int)) = true := by
  have h1 : ∀ l : List Int, PyData.canLayAll0 (l.map PyData.int) = true := fun l => by
    induction l with
    | nil => rfl
    | cons x r ih => rw [List.map_cons, PyData.canLayAll0, ih]; simp [PyData.canLay0]
  simp [SeqAt.shaped, PyData.canLay0, PyData.depth, h1, PySem.W.depth_ints]
@[simp] theorem ev_nel0 (l : List Int) : neD (.list (l.map PyData.int)) (.list []) = some (.bool (!l.isEmpty)) := by
  unfold neD
  have h : SeqAt.shaped (.list []) = true := shp_ints []
  rw [if_pos (by rw [shp_ints, h]; rfl)]
  cases l <;> simp [PyData.eqv, PyData.eqvAll]
@[simp] theorem ev_ne00 : neD (.list []) (.list []) = some (.bool false) := ev_nel0 []
/-- loops told by what is left -/
theorem forL_rem {α σ : Type} {g : MG} {mb : MS} (enc : α → Dat) (P : List α → σ → Env → Prop) (f : σ → α → σ) (h : ∀ t r s Γ, P (t :: r) s Γ → ∃ Γ', forStep g mb (enc t) Γ = some (.nx, Γ') ∧ P r (f s t) Γ') :
    ∀ {ts : List α} {s : σ} {Γ : Env}, P ts s Γ → ∃ Γ', forL g mb (ts.map enc) Γ = some (.nx, Γ') ∧ P [] (ts.foldl f s) Γ'
  | [], s, Γ, hP => ⟨Γ, by simp [forL], hP⟩
  | t :: ts, s, Γ, hP => by
    obtain ⟨Γ1, e1, hP1⟩ := h t ts s Γ hP
    obtain ⟨Γ2, e2, hP2⟩ := forL_rem enc P f h hP1
    refine ⟨Γ2, ?_, hP2⟩
    rw [List.map_cons, forL]
    unfold forStep at e1
    cases hg : g (.d (enc t)) Γ with
    | none => rw [hg] at e1; cases e1
    | some Γ3 =>
      rw [hg] at e1
      simp only [Option.bind_some] at e1 ⊢
      rw [e1]
      simpa using e2
theorem lcL2_pure {α β : Type} {g : MG} {mi1 : MI} {g1 : MG} {me : M} {vs vs1 : List Nat} {Γ : Env} (enc : α → Dat) (enc2 : β → Dat) (us : α → List β) (v : α → β → Dat) : ∀ {ts : List α} {acc : List Dat},
    (∀ t ∈ ts, ∃ Γ1 Γ2, g (.d (enc t)) Γ = some Γ1 ∧ mi1 Γ1 = some ((us t).map enc2, Γ2) ∧ (∀ u ∈ us t, lcStep g1 mYes me vs1 (enc2 u) (wipeE Γ2 vs1) = some (some (v t u), wipeE Γ2 vs1)) ∧ wipeE (wipeE Γ2 vs1) vs = Γ) →
    acc.length + (ts.flatMap fun t => (us t).map (v t)).length ≤ lim → lcL2 g mi1 g1 me vs vs1 (ts.map enc) acc Γ = some (acc ++ ts.flatMap fun t => (us t).map (v t), Γ)
  | [], acc, _, _ => by simp [lcL2]
  | t :: ts, acc, h, hl => by
    obtain ⟨Γ1, Γ2, e1, e2, e3, e4⟩ := h t (by simp)
    rw [List.flatMap_cons, List.length_append, List.length_map] at hl
    have e5 := lcL_pure (acc := acc) enc2 (fun u => some (v t u)) e3 (by omega)
    have e6 : (us t).filterMap (fun u => some (v t u)) = (us t).map (v t) := by rw [List.filterMap_eq_map']
    rw [e6] at e5
    rw [List.map_cons, lcL2, e1]
    simp only [Option.bind_some, e2, e5, e4]
    rw [lcL2_pure enc enc2 us v (fun t ht => h t (List.mem_cons_of_mem _ ht)) (by rw [List.length_append, List.length_map]; omega), List.flatMap_cons]
    simp
theorem lc2_pure {α β : Type} {mi : MI} {g : MG} {mi1 : MI} {g1 : MG} {me : M} {vs vs1 : List Nat} {Γ Γ0 : Env} {ts : List α} (enc : α → Dat) (enc2 : β → Dat) (us : α → List β) (v : α → β → Dat) (hi : mi Γ = some (ts.map enc, Γ0)) (hp : plainAt Γ0 vs = true)
    (h : ∀ t ∈ ts, ∃ Γ1 Γ2, g (.d (enc t)) (wipeE Γ0 vs) = some Γ1 ∧ mi1 Γ1 = some ((us t).map enc2, Γ2) ∧ (∀ u ∈ us t, lcStep g1 mYes me vs1 (enc2 u) (wipeE Γ2 vs1) = some (some (v t u), wipeE Γ2 vs1)) ∧ wipeE (wipeE Γ2 vs1) vs = wipeE Γ0 vs)
    (hl : (ts.flatMap fun t => (us t).map (v t)).length ≤ lim) : mLc2 mi g mi1 g1 me vs vs1 Γ = some (.own (.lst (ts.flatMap fun t => (us t).map (v t))), Γ0) := by
  unfold mLc2
  rw [hi]
  simp only [Option.bind_some, hp, if_true]
  rw [lcL2_pure enc enc2 us v h (by simpa using hl)]
  simp [putE_wipe]
end DL

set_option Elab.async false
set_option linter.all false
set_option maxRecDepth 100000
set_option maxHeartbeats 4000000
namespace DL
open PySem
/-- a test that holds -/
theorem if_g {α : Type} {c : Prop} [Decidable c] {a : Option α} (h : c) : (if c then a else none) = a := if_pos h
section
variable {Γ Γ1 Γ2 : Env}
theorem seq_nx {a b : MS} {r : Option (Flw × Env)} (h1 : a Γ = some (.nx, Γ1)) (h2 : b Γ1 = r) : mSeq a b Γ = r := by
  unfold mSeq
  rw [h1]
  exact h2
theorem set_of {g : MG} {m : M} {s : Slot} (h1 : m Γ = some (s, Γ1)) (h2 : g s Γ1 = some Γ2) : mSet g m Γ = some (.nx, Γ2) := by
  unfold mSet
  rw [h1]
  simp only [Option.bind_some]
  rw [h2]
  rfl
theorem if_no {t : MT} {a : MS} (h : t Γ = some (false, Γ1)) : mIfS t a mNext Γ = some (.nx, Γ1) := by
  unfold mIfS
  rw [h]
  rfl
theorem not_tru {m : M} (h : m Γ = some (.d (.bool true), Γ1)) : mNotT (mTru m) Γ = some (false, Γ1) := by
  unfold mNotT mTru
  rw [h]
  rfl
theorem ret_of {n : Nat} {m : M} {s s' : Slot} (h1 : m Γ = some (s, Γ1)) (h2 : outS n s Γ1 = some (s', Γ2)) : mRet n m Γ = some (.ret s', Γ2) := by
  unfold mRet
  rw [h1]
  simp only [Option.bind_some]
  rw [h2]
  rfl
theorem un_of {g : Slot → Env → Option (Slot × Env)} {m : M} {s : Slot} {r} (h1 : m Γ = some (s, Γ1)) (h2 : g s Γ1 = r) : mUn g m Γ = r := by
  unfold mUn
  rw [h1]
  exact h2
theorem bin_of {g : Slot → Slot → Env → Option (Slot × Env)} {a b : M} {s t : Slot} {r} (h1 : a Γ = some (s, Γ1)) (h2 : b Γ1 = some (t, Γ2)) (h3 : g s t Γ2 = r) : mBin g a b Γ = r := by
  unfold mBin
  rw [h1]
  simp only [Option.bind_some]
  rw [h2]
  exact h3
theorem mB_of {m : M} {c : Bool} (h : m Γ = some (.d (.bool c), Γ1)) : mB m Γ = some (c, Γ1) := by
  unfold mB
  rw [h]
  rfl
theorem tru_of {m : M} {c : Bool} (h : m Γ = some (.d (.bool c), Γ1)) : mTru m Γ = some (c, Γ1) := by
  unfold mTru
  rw [h]
  rfl
theorem not_of {t : MT} {c : Bool} (h : t Γ = some (c, Γ1)) : mNotT t Γ = some (!c, Γ1) := by
  unfold mNotT
  rw [h]
  rfl
theorem ifs_of {t : MT} {a b : MS} {c : Bool} (h : t Γ = some (c, Γ1)) : mIfS t a b Γ = if c then a Γ1 else b Γ1 := by
  unfold mIfS
  rw [h]
  rfl
theorem if_of {t : MT} {a b : M} {c : Bool} (h : t Γ = some (c, Γ1)) : mIf t a b Γ = if c then a Γ1 else b Γ1 := by
  unfold mIf
  rw [h]
  rfl
theorem for_of {mi : MI} {g : MG} {mb : MS} {items : List Dat} (h : mi Γ = some (items, Γ1)) : mFor mi g mb Γ = forL g mb items Γ1 := by
  unfold mFor
  rw [h]
  rfl
theorem seq_ret {a b : MS} {r : Slot} (h1 : a Γ = some (.ret r, Γ1)) : mSeq a b Γ = some (.ret r, Γ1) := by
  unfold mSeq
  rw [h1]
  rfl
theorem or_no {a b : MT} {r} (h1 : a Γ = some (false, Γ1)) (h2 : b Γ1 = r) : mOrT a b Γ = r := by
  unfold mOrT
  rw [h1]
  exact h2
theorem and_no {a b : MT} (h1 : a Γ = some (false, Γ1)) : mAndT a b Γ = some (false, Γ1) := by
  unfold mAndT
  rw [h1]
  rfl
theorem and_yes {a b : MT} {r} (h1 : a Γ = some (true, Γ1)) (h2 : b Γ1 = r) : mAndT a b Γ = r := by
  unfold mAndT
  rw [h1]
  exact h2
theorem dc_b {i : Nat} {r : MD} {o : Own} {l : List Dat} (h1 : Γ[i]? = some (.own o)) (h2 : r (Γ.set i (.d o.dat)) = some (l, Γ2)) : mDc (mVar i) r Γ = some (o.dat :: l, Γ2) := by
  unfold mDc
  rw [ev_vo h1]
  simp only [Option.bind_some, ev_setb, h1]
  rw [h2]
  rfl
theorem ac_of {m : M} {r : MA} {s : Slot} {ss : List Slot} (h1 : m Γ = some (s, Γ1)) (h2 : r Γ1 = some (ss, Γ2)) : mAc m r Γ = some (s :: ss, Γ2) := by
  unfold mAc
  rw [h1]
  simp only [Option.bind_some]
  rw [h2]
  rfl
theorem ac_p {m : M} {r : MA} {s : Slot} {ss : List Slot} (h1 : m Γ = some (s, Γ)) (h2 : r Γ = some (ss, Γ2)) : mAc m r Γ = some (s :: ss, Γ2) := ac_of h1 h2
theorem call_of {n : Nat} {F : FS} {ma : MA} {ss args outs : List Slot} {r : Slot} (h1 : ma Γ = some (ss, Γ1)) (h2 : argsS Γ1 ss = some args) (hF : F args = some (r, outs)) (h3 : backS Γ1 ss outs = Γ2 := by rfl) (hk : keepable r = true := by rfl)
    (hn : ss.length = n := by rfl) (hb : (borIx ss).Nodup := by simp) (ho : outs.length = args.length := by rfl) : mCall n F ma Γ = some (r, Γ2) := by
  unfold mCall
  rw [h1]
  simp only [Option.bind_some]
  rw [h2]
  simp only [Option.bind_some]
  rw [if_pos ⟨hn, hb⟩, hF]
  simp only [Option.bind_some]
  rw [if_pos ⟨hk, ho⟩, h3]
/-- a call whose arguments are data -/
theorem call1 {F : FS} {a : M} {s : Slot} {d : Dat} {r : Slot} (h1 : a Γ = some (s, Γ1)) (hs : s = .d d) (hF : F [.d d] = some (r, [.d d])) (hk : keepable r = true) : mCall 1 F (mAc a mA0) Γ = some (r, Γ1) := by
  subst hs
  simp only [ev_Call, ev_Ac, h1, Option.bind_some, ev_A0, ev_argsc, ev_argd, ev_args0, ev_bixd, ev_bix0, List.length_cons, List.length_nil]
  rw [if_pos (by simp), hF]
  simp only [Option.bind_some]
  rw [if_pos (by simp [hk])]
  simp
theorem call2 {F : FS} {a b : M} {d e : Dat} {r : Slot} (h1 : a Γ = some (.d d, Γ1)) (h2 : b Γ1 = some (.d e, Γ2)) (hF : F [.d d, .d e] = some (r, [.d d, .d e])) (hk : keepable r = true) : mCall 2 F (mAc a (mAc b mA0)) Γ = some (r, Γ2) := by
  simp only [ev_Call, ev_Ac, h1, h2, Option.bind_some, ev_A0, ev_argsc, ev_argd, ev_args0, ev_bixd, ev_bix0, List.length_cons, List.length_nil]
  rw [if_pos (by simp), hF]
  simp only [Option.bind_some]
  rw [if_pos (by simp [hk])]
  simp
theorem call3 {F : FS} {a b c : M} {d e f : Dat} {r : Slot} {Γ3 : Env} (h1 : a Γ = some (.d d, Γ1)) (h2 : b Γ1 = some (.d e, Γ2)) (h3 : c Γ2 = some (.d f, Γ3)) (hF : F [.d d, .d e, .d f] = some (r, [.d d, .d e, .d f])) (hk : keepable r = true) : mCall 3 F (mAc a (mAc b (mAc c mA0))) Γ = some (r, Γ3) := by
  simp only [ev_Call, ev_Ac, h1, h2, h3, Option.bind_some, ev_A0, ev_argsc, ev_argd, ev_args0, ev_bixd, ev_bix0, List.length_cons, List.length_nil]
  rw [if_pos (by simp), hF]
  simp only [Option.bind_some]
  rw [if_pos (by simp [hk])]
  simp
end
theorem lc_pureG {α : Type} {mi : MI} {g : MG} {mt : MT} {me : M} {vs : List Nat} {Γ Γ0 : Env} {ts : List α} (enc : α → Dat) (f : α → Option Dat) (hi : mi Γ = some (ts.map enc, Γ0)) (hp : plainAt Γ0 vs = true)
    (h : ∀ t ∈ ts, lcStep g mt me vs (enc t) (wipeE Γ0 vs) = some (f t, wipeE Γ0 vs)) (hl : ts.length ≤ lim) : mLc mi g mt me vs Γ = some (.own (.lst (ts.filterMap f)), Γ0) := by
  unfold mLc
  rw [hi]
  simp only [Option.bind_some, hp, if_true]
  rw [lcL_pure enc f h (by simpa using hl)]
  simp [putE_wipe]
theorem lc_map {α : Type} {mi : MI} {g : MG} {me : M} {vs : List Nat} {Γ Γ0 : Env} {ts : List α} (enc : α → Dat) (f : α → Dat) (hi : mi Γ = some (ts.map enc, Γ0)) (hp : plainAt Γ0 vs = true)
    (h : ∀ t ∈ ts, lcStep g mYes me vs (enc t) (wipeE Γ0 vs) = some (some (f t), wipeE Γ0 vs)) (hl : ts.length ≤ lim) : mLc mi g mYes me vs Γ = some (.own (.lst (ts.map f)), Γ0) := by
  have e := lc_pureG enc (fun t => some (f t)) hi hp h hl
  rwa [List.filterMap_eq_map'] at e
theorem lc_filter {α : Type} {mi : MI} {g : MG} {mt : MT} {me : M} {vs : List Nat} {Γ Γ0 : Env} {ts : List α} (enc : α → Dat) (p : α → Bool) (f : α → Dat) (hi : mi Γ = some (ts.map enc, Γ0)) (hp : plainAt Γ0 vs = true)
    (h : ∀ t ∈ ts, lcStep g mt me vs (enc t) (wipeE Γ0 vs) = some (if p t then some (f t) else none, wipeE Γ0 vs)) (hl : ts.length ≤ lim) : mLc mi g mt me vs Γ = some (.own (.lst ((ts.filter p).map f)), Γ0) := by
  have e := lc_pureG enc (fun t => if p t then some (f t) else none) hi hp h hl
  have ef : ∀ l : List α, l.filterMap (fun t => if p t then some (f t) else none) = (l.filter p).map f := fun l => by
    induction l with
    | nil => rfl
    | cons x r ih => by_cases h : p x <;> simp [h, ih]
  rwa [ef] at e
theorem sortU_nodup (l : List Str) : (sortU l).Nodup := (sortU_pw l).imp fun h e => by rw [e, ltS_irr] at h; cases h
/-! ### {text: v for ..}, sorted -/
section
variable {g : MG} {mt : MT} {mk mv : M} {vs : List Nat}
def dcStep (g : MG) (mt : MT) (mk mv : M) (vs : List Nat) (x : Dat) (Γ : Env) : Option (Option (L2.Key × Dat) × Env) := (g (.d x) Γ).bind fun Γ1 => (mt Γ1).bind fun p => if p.1 then
      (mk p.2).bind fun q => (settle q.2 q.1).bind fun s => (keyOfD s.1).bind fun k => (mv s.2).bind fun u => (settle u.2 u.1).bind fun t => some (some (k, t.1), wipeE t.2 vs)
    else some (none, wipeE p.2 vs)
theorem dcL_cons {x : Dat} {xs : List Dat} {acc : List (L2.Key × Dat)} {Γ : Env} (hl : acc.length < lim) : dcL g mt mk mv vs (x :: xs) acc Γ = (dcStep g mt mk mv vs x Γ).bind fun r => match r.1 with
    | some d => dcL g mt mk mv vs xs (putD acc d.1 d.2) r.2
    | none => dcL g mt mk mv vs xs acc r.2 := by
  unfold dcStep
  rw [dcL]
  cases g (.d x) Γ with
  | none => rfl
  | some Γ1 =>
    simp only [Option.bind_some]
    cases mt Γ1 with
    | none => rfl
    | some p =>
      simp only [Option.bind_some]
      cases p.1 with
      | false => simp
      | true =>
        simp only [if_true]
        cases mk p.2 with
        | none => rfl
        | some q =>
          simp only [Option.bind_some]
          cases settle q.2 q.1 with
          | none => rfl
          | some s =>
            simp only [Option.bind_some]
            cases keyOfD s.1 with
            | none => rfl
            | some k =>
              simp only [Option.bind_some]
              cases mv s.2 with
              | none => rfl
              | some u =>
                simp only [Option.bind_some]
                cases settle u.2 u.1 with
                | none => rfl
                | some t =>
                  simp only [Option.bind_some]
                  rw [if_pos hl]
theorem putD_len {acc : List (L2.Key × Dat)} {k : L2.Key} {d : Dat} : (putD acc k d).length ≤ acc.length + 1 := by
  induction acc with
  | nil => simp [putD]
  | cons p r ih =>
    rw [putD]
    split
    · simp
    · rw [List.length_cons, List.length_cons]; omega
def putAll {α : Type} (f : α → L2.Key × Dat) (ts : List α) (acc : List (L2.Key × Dat)) : List (L2.Key × Dat) := ts.foldl (fun a t => putD a (f t).1 (f t).2) acc
theorem dcL_pure {α : Type} {Γ : Env} (enc : α → Dat) (f : α → L2.Key × Dat) : ∀ {ts : List α} {acc : List (L2.Key × Dat)}, (∀ t ∈ ts, dcStep g mt mk mv vs (enc t) Γ = some (some (f t), Γ)) → acc.length + ts.length ≤ lim →
    dcL g mt mk mv vs (ts.map enc) acc Γ = some (putAll f ts acc, Γ)
  | [], acc, _, _ => rfl
  | t :: ts, acc, h, hl => by
    rw [List.length_cons] at hl
    have hp := putD_len (acc := acc) (k := (f t).1) (d := (f t).2)
    rw [List.map_cons, dcL_cons (by omega), h t (by simp)]
    simp only [Option.bind_some]
    rw [dcL_pure enc f (fun t ht => h t (List.mem_cons_of_mem _ ht)) (by omega)]
    rfl
theorem dc_pure {α : Type} {mi : MI} {Γ Γ0 : Env} {ts : List α} (enc : α → Dat) (f : α → L2.Key × Dat) (hi : mi Γ = some (ts.map enc, Γ0)) (hp : plainAt Γ0 vs = true)
    (h : ∀ t ∈ ts, dcStep g mt mk mv vs (enc t) (wipeE Γ0 vs) = some (some (f t), wipeE Γ0 vs)) (hl : ts.length ≤ lim) : mDcomp mi g mt mk mv vs Γ = some (.own (.dct (pairsD (putAll f ts []))), Γ0) := by
  unfold mDcomp
  rw [hi]
  simp only [Option.bind_some, hp, if_true]
  rw [dcL_pure enc f h (by simpa using hl)]
  simp [putE_wipe]
end
theorem put_strs {x : Str} {ks : List Str} : putD (ks.map fun k => ((Sum.inr k : L2.Key), PyData.bool true)) (.inr x) (.bool true) = ((if x ∈ ks then ks else ks ++ [x]).map fun k => ((Sum.inr k : L2.Key), PyData.bool true)) := by
  induction ks with
  | nil => simp [putD]
  | cons k r ih =>
    rw [List.map_cons, putD]
    by_cases e : k = x
    · subst e; simp
    · have e2 : ¬ (Sum.inr k : L2.Key) = .inr x := fun z => e (Sum.inr.inj z)
      have e3 : ¬ x = k := fun z => e z.symm
      rw [if_neg e2, ih]
      by_cases h : x ∈ r <;> simp [h, e3]
theorem putAll_strs {α : Type} (nm : α → Str) : ∀ (ts : List α) (ks : List Str), ks.Nodup → ∃ ls : List Str, putAll (fun t => ((Sum.inr (nm t) : L2.Key), PyData.bool true)) ts (ks.map fun k => (Sum.inr k, PyData.bool true)) = ls.map (fun k => (Sum.inr k, PyData.bool true)) ∧ ls.Nodup ∧ ls.length ≤ ks.length + ts.length ∧ ∀ x, x ∈ ls ↔ x ∈ ks ∨ x ∈ ts.map nm
  | [], ks, nd => ⟨ks, rfl, nd, by simp, by simp⟩
  | t :: ts, ks, nd => by
    have nd2 : (if nm t ∈ ks then ks else ks ++ [nm t]).Nodup := by
      split
      · exact nd
      · rename_i h
        rw [List.nodup_append]
        exact ⟨nd, by simp, fun a ha b hb e => h (by rw [List.mem_singleton.mp hb] at e; rw [← e]; exact ha)⟩
    obtain ⟨ls, h1, h2, h3, h4⟩ := putAll_strs nm ts _ nd2
    refine ⟨ls, ?_, h2, ?_, fun x => ?_⟩
    · rw [← h1]
      show putAll _ ts (putD _ _ _) = _
      rw [put_strs]
    · rw [List.length_cons]
      split at h3
      · omega
      · rw [List.length_append, List.length_singleton] at h3; omega
    · rw [h4, List.map_cons, List.mem_cons]
      split
      · rename_i h
        constructor
        · rintro (q | q)
          · exact .inl q
          · exact .inr (.inr q)
        · rintro (q | q | q)
          · exact .inl q
          · exact .inl (q ▸ h)
          · exact .inr q
      · rw [List.mem_append, List.mem_singleton, or_assoc]
theorem keysS_strs (ls : List Str) : keysS (pairsD (ls.map fun k => ((Sum.inr k : L2.Key), PyData.bool true))) = some ls := by
  induction ls with
  | nil => rfl
  | cons x r ih =>
    have e : keysS (pairsD ((x :: r).map fun k => ((Sum.inr k : L2.Key), PyData.bool true))) = (keysS (pairsD (r.map fun k => ((Sum.inr k : L2.Key), PyData.bool true)))).bind fun l => some (x :: l) := rfl
    rw [e, ih]
    rfl
/-- sorted({name: True for ..}) -/
theorem sortD_of {α : Type} {m : M} {Γ Γ1 : Env} (nm : α → Str) {ts : List α} (h : m Γ = some (.own (.dct (pairsD (putAll (fun t => ((Sum.inr (nm t) : L2.Key), PyData.bool true)) ts []))), Γ1)) (hl : ts.length < 64) :
    mUn gSortD m Γ = some (.own (.lst ((sortU (ts.map nm)).map PyData.str)), Γ1) := by
  obtain ⟨ls, h1, h2, h3, h4⟩ := putAll_strs nm ts [] List.nodup_nil
  rw [List.map_nil] at h1
  rw [h1] at h
  refine un_of h ?_
  unfold gSortD
  simp only [ev_viewo, ev_datd, Option.bind_some, keysS_strs]
  rw [if_pos ⟨h2, by simp only [List.length_nil] at h3; omega⟩, sortU_congr (xs := ls) (ys := ts.map nm) fun x => by rw [h4]; simp]
theorem sortSet_of {m : M} {Γ Γ1 : Env} {ns : List Str} (h : m Γ = some (.own (.lst (ns.map PyData.str)), Γ1)) (hl : ns.length < 64) : mUn gSortSet m Γ = some (.own (.lst ((sortU ns).map PyData.str)), Γ1) := by
  refine un_of h ?_
  unfold gSortSet
  simp only [ev_viewo, ev_datl, Option.bind_some, strsD_map]
  rw [if_pos hl]
end DL

set_option Elab.async false
set_option linter.all false
set_option maxRecDepth 100000
set_option maxHeartbeats 4000000
/-! tallies: what is counted by rows of whole numbers -/
namespace DL
open PySem L2
abbrev Row := List Int
def ek (k : Row) : List Key := k.map Sum.inl
def encR (l : List (Row × Int)) : List (List Key × Dat) := l.map fun p => (ek p.1, .int p.2)
theorem ek_inj : ∀ {k j : Row}, ek k = ek j → k = j
  | [], [], _ => rfl
  | [], _ :: _, h => by cases h
  | _ :: _, [], h => by cases h
  | a :: k, b :: j, h => by
    have h' : (Sum.inl a : Key) :: ek k = Sum.inl b :: ek j := h
    injection h' with h1 h2
    injection h1 with h1
    rw [h1, ek_inj h2]
theorem keysOf_ints : ∀ (k : Row), keysOf (k.map PyData.int) = some (ek k)
  | [] => rfl
  | a :: k => by
    rw [List.map_cons, keysOf, keysOf_ints k]
    rfl
def findI : List (Row × Int) → Row → Int
  | [], _ => 0
  | p :: r, k => if p.1 = k then p.2 else findI r k
def bump : List (Row × Int) → Row → Int → List (Row × Int)
  | [], k, m => [(k, m)]
  | p :: r, k, m => if p.1 = k then (k, p.2 + m) :: r else p :: bump r k m
theorem findT_cons {α : Type} {p : List Key × α} {r : List (List Key × α)} {k : List Key} : findT (p :: r) k = if p.1 = k then some p.2 else findT r k := by
  unfold findT
  by_cases e : p.1 = k <;> simp [e]
theorem findT_enc {k : Row} : ∀ {l : List (Row × Int)}, (findT (encR l) (ek k)).getD (.int 0) = .int (findI l k)
  | [] => rfl
  | p :: r => by
    have ih := findT_enc (k := k) (l := r)
    show (findT ((ek p.1, PyData.int p.2) :: encR r) (ek k)).getD _ = _
    rw [findT_cons, findI]
    by_cases e : p.1 = k
    · rw [if_pos (by rw [e]), if_pos e]; rfl
    · rw [if_neg (fun z => e (ek_inj z)), if_neg e, ih]
theorem putT_enc {k : Row} {m : Int} : ∀ {l : List (Row × Int)}, putT (encR l) (ek k) (.int (findI l k + m)) = encR (bump l k m)
  | [] => by simp [encR, putT, bump, findI]
  | p :: r => by
    have ih := putT_enc (k := k) (m := m) (l := r)
    show putT ((ek p.1, PyData.int p.2) :: encR r) (ek k) _ = _
    rw [putT, findI, bump]
    by_cases e : p.1 = k
    · rw [if_pos (by rw [e]), if_pos e, if_pos e]; rfl
    · rw [if_neg (fun z => e (ek_inj z)), if_neg e, if_neg e, ih]; rfl
theorem enc_keys (l : List (Row × Int)) : (encR l).map (·.1) = (l.map (·.1)).map ek := by simp [encR]
theorem nodup_inj {α β : Type} {f : α → β} (hf : ∀ a b, f a = f b → a = b) : ∀ {l : List α}, l.Nodup → (l.map f).Nodup
  | [], _ => List.nodup_nil
  | a :: l, h => by
    rw [List.nodup_cons] at h
    rw [List.map_cons, List.nodup_cons]
    refine ⟨fun z => ?_, nodup_inj hf h.2⟩
    obtain ⟨b, hb, e⟩ := List.mem_map.mp z
    exact h.1 (hf _ _ e ▸ hb)
theorem enc_nodup {l : List (Row × Int)} (h : (l.map (·.1)).Nodup) : ((encR l).map (·.1)).Nodup := by
  rw [enc_keys]
  exact nodup_inj (fun _ _ => ek_inj) h
theorem bump_keys {k x : Row} {m : Int} : ∀ {l : List (Row × Int)}, x ∈ (bump l k m).map (·.1) ↔ x = k ∨ x ∈ l.map (·.1)
  | [] => by simp [bump]
  | p :: r => by
    have ih := bump_keys (k := k) (x := x) (m := m) (l := r)
    rw [bump]
    by_cases e : p.1 = k
    · rw [if_pos e]; simp [e]
    · rw [if_neg e, List.map_cons, List.mem_cons, ih, List.map_cons, List.mem_cons, or_left_comm]
theorem bump_nodup {k : Row} {m : Int} : ∀ {l : List (Row × Int)}, (l.map (·.1)).Nodup → ((bump l k m).map (·.1)).Nodup
  | [], _ => by simp [bump]
  | p :: r, h => by
    rw [List.map_cons, List.nodup_cons] at h
    rw [bump]
    by_cases e : p.1 = k
    · rw [if_pos e, List.map_cons, List.nodup_cons, ← e]; exact h
    · rw [if_neg e, List.map_cons, List.nodup_cons]
      refine ⟨fun z => ?_, bump_nodup h.2⟩
      rcases bump_keys.mp z with z | z
      · exact e z
      · exact h.1 z
theorem bump_len {k : Row} {m : Int} : ∀ {l : List (Row × Int)}, (bump l k m).length ≤ l.length + 1
  | [] => by simp [bump]
  | p :: r => by
    have := bump_len (k := k) (m := m) (l := r)
    rw [bump]
    split
    · simp
    · rw [List.length_cons, List.length_cons]; omega
theorem bump_pos {k : Row} {m : Int} (hm : 1 ≤ m) : ∀ {l : List (Row × Int)}, (∀ p ∈ l, 1 ≤ p.2) → ∀ p ∈ bump l k m, 1 ≤ p.2
  | [], _ => by intro p hp; simp [bump] at hp; subst hp; exact hm
  | q :: r, h => by
    intro p hp
    rw [bump] at hp
    have hq := h q List.mem_cons_self
    split at hp
    · rcases List.mem_cons.mp hp with rfl | hp
      · show 1 ≤ q.2 + m; omega
      · exact h p (List.mem_cons_of_mem _ hp)
    · rcases List.mem_cons.mp hp with rfl | hp
      · exact hq
      · exact bump_pos hm (fun x hx => h x (List.mem_cons_of_mem _ hx)) p hp
/-- told row by row -/
def unf (l : List (Row × Int)) : List Row := l.flatMap fun p => List.replicate p.2.toNat p.1
theorem unf_cons (p : Row × Int) (r : List (Row × Int)) : unf (p :: r) = List.replicate p.2.toNat p.1 ++ unf r := rfl
theorem unf_app (l m : List (Row × Int)) : unf (l ++ m) = unf l ++ unf m := by simp [unf]
theorem unf_bump {k : Row} {m : Int} (hm : 0 ≤ m) : ∀ {l : List (Row × Int)}, (∀ p ∈ l, 1 ≤ p.2) → (unf (bump l k m)).Perm (unf l ++ List.replicate m.toNat k)
  | [], _ => by simp [bump, unf]
  | p :: r, h => by
    rw [bump]
    have hp := h p List.mem_cons_self
    by_cases e : p.1 = k
    · rw [if_pos e, unf_cons, unf_cons, e]
      show (List.replicate (p.2 + m).toNat k ++ unf r).Perm _
      rw [show (p.2 + m).toNat = p.2.toNat + m.toNat by omega, ← List.replicate_append_replicate, List.append_assoc, List.append_assoc]
      exact List.Perm.append_left _ List.perm_append_comm
    · rw [if_neg e, unf_cons, unf_cons, List.append_assoc]
      exact List.Perm.append_left _ (unf_bump hm fun x hx => h x (List.mem_cons_of_mem _ hx))
def tal (acc xs : List (Row × Int)) : List (Row × Int) := xs.foldl (fun a p => bump a p.1 p.2) acc
structure Good (l : List (Row × Int)) : Prop where
  nd : (l.map (·.1)).Nodup
  pos : ∀ p ∈ l, 1 ≤ p.2
theorem Good.nil : Good [] := ⟨List.nodup_nil, by simp⟩
theorem tal_good : ∀ {xs acc : List (Row × Int)}, Good acc → (∀ p ∈ xs, 1 ≤ p.2) → Good (tal acc xs)
  | [], _, g, _ => g
  | p :: r, acc, g, h => tal_good (xs := r) ⟨bump_nodup g.nd, bump_pos (h p List.mem_cons_self) g.pos⟩ fun x hx => h x (List.mem_cons_of_mem _ hx)
theorem tal_unf : ∀ {xs acc : List (Row × Int)}, Good acc → (∀ p ∈ xs, 1 ≤ p.2) → (unf (tal acc xs)).Perm (unf acc ++ unf xs)
  | [], acc, _, _ => by simp [tal, unf]
  | p :: r, acc, g, h => by
    have hp := h p List.mem_cons_self
    refine (tal_unf (xs := r) ⟨bump_nodup g.nd, bump_pos hp g.pos⟩ fun x hx => h x (List.mem_cons_of_mem _ hx)).trans ?_
    rw [unf_cons, ← List.append_assoc]
    exact List.Perm.append_right _ (unf_bump (by omega) g.pos)
theorem tal_len : ∀ {xs acc : List (Row × Int)}, (tal acc xs).length ≤ acc.length + xs.length
  | [], acc => by simp [tal]
  | p :: r, acc => by
    have h1 := tal_len (xs := r) (acc := bump acc p.1 p.2)
    have h2 := bump_len (k := p.1) (m := p.2) (l := acc)
    show (tal (bump acc p.1 p.2) r).length ≤ _
    rw [List.length_cons]; omega
/-- how often -/
theorem count_unf {k : Row} : ∀ {l : List (Row × Int)}, Good l → ((unf l).count k : Int) = findI l k
  | [], _ => rfl
  | p :: r, g => by
    have gr : Good r := ⟨by have := g.nd; rw [List.map_cons, List.nodup_cons] at this; exact this.2, fun x hx => g.pos x (List.mem_cons_of_mem _ hx)⟩
    have hp := g.pos p List.mem_cons_self
    rw [unf_cons, List.count_append, List.count_replicate, findI]
    by_cases e : p.1 = k
    · rw [if_pos e]
      have no : (unf r).count k = 0 := by
        rw [List.count_eq_zero]
        intro z
        unfold unf at z
        obtain ⟨q, hq, hz⟩ := List.mem_flatMap.mp z
        have := List.eq_of_mem_replicate hz
        have nd := g.nd
        rw [List.map_cons, List.nodup_cons, e, this] at nd
        exact nd.1 (List.mem_map.mpr ⟨q, hq, rfl⟩)
      rw [no]
      simp [e]
      omega
    · rw [if_neg e, ← count_unf gr]
      simp [e]
theorem mem_find {l : List (Row × Int)} (g : Good l) {k : Row} {v : Int} : (k, v) ∈ l ↔ 1 ≤ v ∧ findI l k = v := by
  induction l with
  | nil => simp [findI]; intro h1 h2; omega
  | cons p r ih =>
    have nd := g.nd
    rw [List.map_cons, List.nodup_cons] at nd
    have gr : Good r := ⟨nd.2, fun x hx => g.pos x (List.mem_cons_of_mem _ hx)⟩
    have hp := g.pos p List.mem_cons_self
    rw [List.mem_cons, findI]
    by_cases e : p.1 = k
    · rw [if_pos e]
      constructor
      · rintro (h | h)
        · rw [← h] at hp ⊢; exact ⟨hp, rfl⟩
        · exact absurd (List.mem_map.mpr ⟨_, h, rfl⟩) (e ▸ nd.1)
      · rintro ⟨_, h⟩
        left
        rw [← e, ← h]
    · rw [if_neg e, ← ih gr]
      constructor
      · rintro (h | h)
        · exact absurd (by rw [← h]) e
        · exact h
      · exact .inr
/-- a tally is told by its rows -/
theorem perm_of {l m : List (Row × Int)} (g : Good l) (g2 : Good m) (h : (unf l).Perm (unf m)) : l.Perm m := by
  have nd : ∀ {l : List (Row × Int)}, Good l → l.Nodup := fun {l} g => by
    have := g.nd
    clear g g2 h
    induction l with
    | nil => exact List.nodup_nil
    | cons p r ih =>
      rw [List.map_cons, List.nodup_cons] at this
      rw [List.nodup_cons]
      exact ⟨fun z => this.1 (List.mem_map.mpr ⟨p, z, rfl⟩), ih this.2⟩
  rw [List.perm_ext_iff_of_nodup (nd g) (nd g2)]
  rintro ⟨k, v⟩
  rw [mem_find g, mem_find g2, ← count_unf g, ← count_unf g2, h.count_eq]
/-! the order of items tells them apart -/
theorem toks_ints : ∀ {a b : List Int} {r s : List (Int ⊕ List Nat)}, PySem.W.keyToksAll (a.map PyData.int) ++ r = PySem.W.keyToksAll (b.map PyData.int) ++ s → a = b ∧ r = s
  | [], [], r, s, h => by simpa [PySem.W.keyToksAll] using h
  | [], y :: b, r, s, h => by simp [PySem.W.keyToksAll] at h
  | x :: a, [], r, s, h => by simp [PySem.W.keyToksAll] at h
  | x :: a, y :: b, r, s, h => by
    have h' : x = y ∧ PySem.W.keyToksAll (a.map PyData.int) ++ r = PySem.W.keyToksAll (b.map PyData.int) ++ s := by
      simpa [PySem.W.keyToksAll, PySem.W.keyToks] using h
    obtain ⟨e1, e2⟩ := toks_ints h'.2
    exact ⟨by rw [h'.1, e1], e2⟩
theorem itD_toks {p q : Row × Int} (h : PySem.W.keyToks (itD p) = PySem.W.keyToks (itD q)) : p = q := by
  obtain ⟨a, v⟩ := p
  obtain ⟨b, w⟩ := q
  have h' : PySem.W.keyToksAll (a.map PyData.int) ++ (.inl 1 :: .inl v :: [.inl 0]) = PySem.W.keyToksAll (b.map PyData.int) ++ (.inl 1 :: .inl w :: [.inl 0]) := by
    simpa [itD, PySem.W.keyToks, PySem.W.keyToksAll] using h
  obtain ⟨e1, e2⟩ := toks_ints h'
  simp only [List.cons.injEq, Sum.inl.injEq] at e2
  rw [e1, e2.2.1]
theorem sort_perm {l m : List (Row × Int)} (h : l.Perm m) : l.mergeSort (PySem.W.dataLe false itD) = m.mergeSort (PySem.W.dataLe false itD) := by
  have T := PySem.W.sortLe_total (PyProof.Rows.listOrd PyProof.Rows.itemOrd) false fun b : Row × Int => PySem.W.keyToks (itD b)
  have pw : ∀ l : List (Row × Int), (l.mergeSort (PySem.W.dataLe false itD)).Pairwise fun a b => PySem.W.dataLe false itD a b = true := List.pairwise_mergeSort (le := PySem.W.dataLe false itD) T.trans (fun a b => by rcases T.total a b with z | z <;> simp [PySem.W.dataLe, z])
  refine List.Perm.eq_of_pairwise (fun a b _ _ h1 h2 => itD_toks ?_) (pw l) (pw m) (((List.mergeSort_perm l _).trans h).trans (List.mergeSort_perm m _).symm)
  have g1 : (!(PyProof.Rows.listOrd PyProof.Rows.itemOrd).blt (PySem.W.keyToks (itD b)) (PySem.W.keyToks (itD a))) = true := h1
  have g2 : (!(PyProof.Rows.listOrd PyProof.Rows.itemOrd).blt (PySem.W.keyToks (itD a)) (PySem.W.keyToks (itD b))) = true := h2
  rw [Bool.not_eq_true'] at g1 g2
  exact (PyProof.Rows.listOrd PyProof.Rows.itemOrd).total _ _ g2 g1
def sortT (l : List (Row × Int)) : List (Row × Int) := l.mergeSort (PySem.W.dataLe false itD)
theorem sortT_perm (l : List (Row × Int)) : (sortT l).Perm l := List.mergeSort_perm _ _
end DL

set_option Elab.async false
set_option linter.all false
set_option maxRecDepth 100000
set_option maxHeartbeats 4000000
namespace DL
open PySem L2
/-- found[k] = found.get(k, 0) + m -/
theorem bump_of {Γ : Env} {i : Nat} {l : List (Row × Int)} {k : Row} {m : Int} {mk mm : M} (hi : Γ[i]? = some (.own (.tdct (encR l)))) (hk : mk Γ = some (.d (tupD k), Γ)) (hm : mm Γ = some (.d (.int m), Γ)) (nd : (l.map (·.1)).Nodup) (hl : l.length < lim) :
    mPutT i mk (mBin gAdd (mGetT i mk (mC (.int 0))) mm) Γ = some (.nx, Γ.set i (.own (.tdct (encR (bump l k m))))) := by
  have e1 : mGetT i mk (mC (.int 0)) Γ = some (.d (.int (findI l k)), Γ) := by
    unfold mGetT
    simp only [hi, hk, Option.bind_some, tupD, mC, keysOf_ints, findT_enc]
  have e2 : mBin gAdd (mGetT i mk (mC (.int 0))) mm Γ = some (.d (.int (findI l k + m)), Γ) := bin_of e1 hm (by simp)
  unfold mPutT
  rw [e2]
  simp only [Option.bind_some, ev_setd, hi, hk, tupD, keysOf_ints]
  rw [if_pos ⟨enc_nodup nd, by simpa [encR] using hl⟩, putT_enc]
/-! lists by rows -/
def appA : List (Row × List Int) → Row → Int → List (Row × List Int)
  | [], k, x => [(k, [x])]
  | p :: r, k, x => if p.1 = k then (k, p.2 ++ [x]) :: r else p :: appA r k x
def encL (l : List (Row × List Int)) : List (List Key × List Dat) := l.map fun p => (ek p.1, p.2.map PyData.int)
theorem appT_enc {k : Row} {x : Int} : ∀ {l : List (Row × List Int)}, appT (encL l) (ek k) (.int x) = encL (appA l k x)
  | [] => rfl
  | p :: r => by
    have ih := appT_enc (k := k) (x := x) (l := r)
    show appT ((ek p.1, p.2.map PyData.int) :: encL r) (ek k) _ = _
    rw [appT, appA]
    by_cases e : p.1 = k
    · rw [if_pos (by rw [e]), if_pos e]; simp [encL, e]
    · rw [if_neg (fun z => e (ek_inj z)), if_neg e, ih]; rfl
theorem appA_keys {k x : Row} {m : Int} : ∀ {l : List (Row × List Int)}, x ∈ (appA l k m).map (·.1) ↔ x = k ∨ x ∈ l.map (·.1)
  | [] => by simp [appA]
  | p :: r => by
    have ih := appA_keys (k := k) (x := x) (m := m) (l := r)
    rw [appA]
    by_cases e : p.1 = k
    · rw [if_pos e]; simp [e]
    · rw [if_neg e, List.map_cons, List.mem_cons, ih, List.map_cons, List.mem_cons, or_left_comm]
theorem appA_nodup {k : Row} {m : Int} : ∀ {l : List (Row × List Int)}, (l.map (·.1)).Nodup → ((appA l k m).map (·.1)).Nodup
  | [], _ => by simp [appA]
  | p :: r, h => by
    rw [List.map_cons, List.nodup_cons] at h
    rw [appA]
    by_cases e : p.1 = k
    · rw [if_pos e, List.map_cons, List.nodup_cons, ← e]; exact h
    · rw [if_neg e, List.map_cons, List.nodup_cons]
      refine ⟨fun z => ?_, appA_nodup h.2⟩
      rcases appA_keys.mp z with z | z
      · exact e z
      · exact h.1 z
def flatA (l : List (Row × List Int)) : List Int := l.flatMap (·.2)
theorem flatA_app {k : Row} {m : Int} : ∀ {l : List (Row × List Int)}, (flatA (appA l k m)).Perm (flatA l ++ [m])
  | [] => by simp [appA, flatA]
  | p :: r => by
    have ih := flatA_app (k := k) (m := m) (l := r)
    rw [appA]
    by_cases e : p.1 = k
    · rw [if_pos e]
      show ((p.2 ++ [m]) ++ flatA r).Perm ((p.2 ++ flatA r) ++ [m])
      rw [List.append_assoc, List.append_assoc]
      exact List.Perm.append_left _ List.perm_append_comm
    · rw [if_neg e]
      show (p.2 ++ flatA (appA r k m)).Perm ((p.2 ++ flatA r) ++ [m])
      rw [List.append_assoc]
      exact List.Perm.append_left _ ih
theorem appA_all {k : Row} {m : Int} {P : Row → Int → Prop} (hm : P k m) : ∀ {l : List (Row × List Int)}, (∀ p ∈ l, p.2 ≠ [] ∧ ∀ x ∈ p.2, P p.1 x) → ∀ p ∈ appA l k m, p.2 ≠ [] ∧ ∀ x ∈ p.2, P p.1 x
  | [], _ => by intro p hp; simp [appA] at hp; subst hp; exact ⟨by simp, fun x hx => by rw [List.mem_singleton.mp hx]; exact hm⟩
  | q :: r, h => by
    intro p hp
    rw [appA] at hp
    have hq := h q List.mem_cons_self
    split at hp
    · rename_i e
      rcases List.mem_cons.mp hp with rfl | hp
      · refine ⟨by simp, fun x hx => ?_⟩
        rcases List.mem_append.mp hx with hx | hx
        · show P k x; rw [← e]; exact hq.2 x hx
        · rw [List.mem_singleton.mp hx]; exact hm
      · exact h p (List.mem_cons_of_mem _ hp)
    · rcases List.mem_cons.mp hp with rfl | hp
      · exact hq
      · exact appA_all hm (fun x hx => h x (List.mem_cons_of_mem _ hx)) p hp
theorem appA_len {k : Row} {m : Int} : ∀ {l : List (Row × List Int)}, (appA l k m).length ≤ l.length + 1 ∧ ∀ (n : Nat), (∀ p ∈ l, p.2.length ≤ n) → ∀ p ∈ appA l k m, p.2.length ≤ n + 1
  | [] => ⟨by simp [appA], fun n _ p hp => by simp [appA] at hp; subst hp; simp⟩
  | q :: r => by
    obtain ⟨h1, h2⟩ := appA_len (k := k) (m := m) (l := r)
    rw [appA]
    by_cases e : q.1 = k
    · rw [if_pos e]
      refine ⟨by simp, fun n h p hp => ?_⟩
      rcases List.mem_cons.mp hp with rfl | hp
      · have := h q List.mem_cons_self; simp; omega
      · have := h p (List.mem_cons_of_mem _ hp); omega
    · rw [if_neg e]
      refine ⟨by rw [List.length_cons, List.length_cons]; omega, fun n h p hp => ?_⟩
      rcases List.mem_cons.mp hp with rfl | hp
      · have := h p List.mem_cons_self; omega
      · exact h2 n (fun x hx => h x (List.mem_cons_of_mem _ hx)) p hp
/-- found.setdefault(k, []).append(x) -/
theorem sdapp_of {Γ : Env} {i j : Nat} {l : List (Row × List Int)} {k : Row} {x : Int} {mk : M} (hi : Γ[i]? = some (.own (.ldct (encL l)))) (hk : mk Γ = some (.d (tupD k), Γ)) (hj : Γ[j]? = some (.d (.int x))) (nd : (l.map (·.1)).Nodup) (hl : l.length < lim) (hl2 : ∀ p ∈ l, p.2.length < lim) :
    mSdApp i j mk Γ = some (.d .none, Γ.set i (.own (.ldct (encL (appA l k x))))) := by
  unfold mSdApp
  simp only [hi, hk, hj, Option.bind_some, tupD, keysOf_ints]
  have c : ((encL l).map (·.1)).Nodup ∧ (encL l).length < lim ∧ ∀ q ∈ encL l, q.2.length < lim := by
    refine ⟨?_, by simpa [encL] using hl, fun q hq => ?_⟩
    · have : (encL l).map (·.1) = (l.map (·.1)).map ek := by simp [encL]
      rw [this]
      exact nodup_inj (fun _ _ => ek_inj) nd
    · obtain ⟨p, hp, rfl⟩ := List.mem_map.mp hq
      simpa using hl2 p hp
  rw [if_pos c, appT_enc]
theorem seqI_of {m : M} {l : List Dat} {Γ Γ1 : Env} (h : m Γ = some (.d (.tuple l), Γ1)) : mSeqI m Γ = some (l, Γ1) := by
  simp only [ev_SeqI, h, Option.bind_some]
  rfl
theorem seqO_of {m : M} {l : List Dat} {Γ Γ1 : Env} (h : m Γ = some (.own (.lst l), Γ1)) : mSeqI m Γ = some (l, Γ1) := by
  simp only [ev_SeqI, h, Option.bind_some]
  rfl
theorem zip_of {ma mb : M} {l1 l2 : List Dat} {Γ Γ1 Γ2 : Env} (h1 : ma Γ = some (.d (.tuple l1), Γ1)) (h2 : mb Γ1 = some (.d (.tuple l2), Γ2)) : mZip ma mb Γ = some (zipL l1 l2, Γ2) := by
  unfold mZip
  rw [h1]
  simp only [Option.bind_some, ev_setd]
  rw [h2]
  rfl
/-! walks -/
theorem itemsT_of {Γ : Env} {i : Nat} {l : List (Row × Int)} (hi : Γ[i]? = some (.own (.tdct (encR l)))) : mItemsT i Γ = some (l.map itD, Γ.set i .no) := by
  unfold mItemsT
  simp only [hi]
  congr 1
  congr 1
  unfold encR
  rw [List.map_map]
  refine List.map_congr_left fun p _ => ?_
  simp only [Function.comp_def, pairD, itD, ek, List.map_map]
  rfl
theorem valuesL_of {Γ : Env} {i : Nat} {l : List (Row × List Int)} (hi : Γ[i]? = some (.own (.ldct (encL l)))) : mValuesL i Γ = some (l.map fun p => PyData.list (p.2.map PyData.int), Γ.set i .no) := by
  unfold mValuesL
  simp only [hi]
  congr 1
  congr 1
  unfold encL
  rw [List.map_map]
  rfl
theorem keysI_ek : ∀ (k : Row), keysI (ek k) = some k
  | [] => rfl
  | a :: k => by
    show (keysI (ek k)).map (a :: ·) = _
    rw [keysI_ek k]; rfl
theorem itemsI_enc : ∀ (l : List (Row × Int)), itemsI (encR l) = some l
  | [] => rfl
  | p :: r => by
    show ((keysI (ek p.1)).bind fun k => (itemsI (encR r)).map ((k, p.2) :: ·)) = _
    rw [keysI_ek, itemsI_enc r]; rfl
theorem sortI_of {Γ : Env} {i : Nat} {l : List (Row × Int)} (hi : Γ[i]? = some (.own (.tdct (encR l)))) : mSortI i Γ = some (.own (.lst ((sortT l).map itD)), Γ) := by
  unfold mSortI
  simp only [hi, itemsI_enc, Option.map_some]
  rfl
end DL
namespace DL
open PySem L2
theorem mul_of {ma mb : M} {i j : Int} {Γ Γ1 Γ2 : Env} (h1 : ma Γ = some (.d (.int i), Γ1)) (h2 : mb Γ1 = some (.d (.int j), Γ2)) (h : mulC i j = true) : mBin gMul ma mb Γ = some (.d (.int (i * j)), Γ2) := by
  refine bin_of h1 h2 ?_
  unfold gMul
  simp only [ev_viewd, Option.bind_some]
  rw [if_pos h]
theorem len_tup {m : M} {l : List Int} {Γ Γ1 : Env} (h : m Γ = some (.d (tupD l), Γ1)) : mUn (gSc1 lenD) m Γ = some (.d (.int (l.length : Int)), Γ1) := by
  refine un_of h ?_
  unfold gSc1 tupD
  simp only [ev_viewd, Option.bind_some, lenD, List.length_map]
theorem lc_step {g : MG} {me : M} {vs : List Nat} {x d : Dat} {Γ Γ1 Γ2 : Env} (h1 : g (.d x) Γ = some Γ1) (h2 : me Γ1 = some (.d d, Γ2)) (h3 : wipeE Γ2 vs = Γ) : lcStep g mYes me vs x Γ = some (some d, Γ) := by
  unfold lcStep mYes
  rw [h1]
  simp only [Option.bind_some, if_true, h2, ev_setd, h3]
theorem lc_stepB {g : MG} {mt : MT} {me : M} {vs : List Nat} {x d : Dat} {c : Bool} {Γ Γ1 Γ2 Γ3 : Env} (h1 : g (.d x) Γ = some Γ1) (ht : mt Γ1 = some (c, Γ2)) (h2 : me Γ2 = some (.d d, Γ3)) (h3 : wipeE Γ3 vs = Γ) (h4 : wipeE Γ2 vs = Γ) : lcStep g mt me vs x Γ = some (if c then some d else none, Γ) := by
  unfold lcStep
  rw [h1]
  simp only [Option.bind_some, ht]
  cases c
  · simp only [Bool.false_eq_true, if_false, h4]
  · simp only [if_true, h2, Option.bind_some, ev_setd, h3]
end DL

set_option Elab.async false
set_option linter.all false
set_option maxRecDepth 100000
set_option maxHeartbeats 4000000
namespace DL
open PySem L2
/-! equality of texts, of rows -/
theorem ev_eqss {a c : Str} (ha : PyData.strOk a = true) (hc : PyData.strOk c = true) : eqD (.str a) (.str c) = some (.bool (decide (a = c))) := by
  unfold eqD
  have h : SeqAt.shaped (.str a) = true ∧ SeqAt.shaped (.str c) = true := by constructor <;> simp [SeqAt.shaped, PyData.canLay0, PyData.depth, ha, hc]
  rw [if_pos (by rw [h.1, h.2]; rfl)]
  have : PyData.eqv (.str a) (.str c) = decide (a = c) := by
    rw [PyData.eqv]
    by_cases e : a = c <;> simp [e]
  rw [this]
theorem eqv_rows : ∀ (a c : Row), PyData.eqvAll (a.map PyData.int) (c.map PyData.int) = decide (a = c)
  | [], [] => by simp [PyData.eqvAll]
  | [], _ :: _ => by simp [PyData.eqvAll]
  | _ :: _, [] => by simp [PyData.eqvAll]
  | x :: a, y :: c => by
    rw [List.map_cons, List.map_cons, PyData.eqvAll, eqv_rows a c, PyData.eqv]
    by_cases e : x = y <;> simp [e]
theorem eqv_tup (a c : Row) : PyData.eqv (tupD a) (tupD c) = decide (a = c) := by
  unfold tupD
  rw [PyData.eqv]
  exact eqv_rows a c
theorem lay_ints : ∀ (a : Row), PyData.canLayAll0 (a.map PyData.int) = true
  | [] => by simp [PyData.canLayAll0]
  | x :: a => by rw [List.map_cons, PyData.canLayAll0, lay_ints a]; simp [PyData.canLay0]
theorem lay_tup (a : Row) : (tupD a).canLay0 = true := by unfold tupD; rw [PyData.canLay0]; exact lay_ints a
theorem lay_tups : ∀ (L : List Row), PyData.canLayAll0 (L.map tupD) = true
  | [] => by simp [PyData.canLayAll0]
  | a :: L => by rw [List.map_cons, PyData.canLayAll0, lay_tup, lay_tups L]; rfl
theorem depth_tup (a : Row) : (tupD a).depth ≤ 60 := by
  unfold tupD
  simp [PyData.depth, PySem.W.depth_ints]
theorem any_tups (L : List Row) (a : Row) : (L.map tupD).any (fun z => PyData.eqv z (tupD a)) = L.contains a := by
  induction L with
  | nil => rfl
  | cons c r ih => rw [List.map_cons, List.any_cons, ih, List.contains_cons, eqv_tup]; by_cases e : c = a <;> simp [e]; intro h; exact absurd h.symm e
theorem cnt_tups (L : List Row) (a : Row) : (L.map tupD).countP (fun z => PyData.eqv z (tupD a)) = L.count a := by
  induction L with
  | nil => rfl
  | cons c r ih => rw [List.map_cons, List.countP_cons, ih, List.count_cons, eqv_tup]; by_cases e : c = a <;> simp [e]
theorem inLD_tups {neg : Bool} {L : List Row} {a : Row} : inLD neg (tupD a) (.list (L.map tupD)) = some (.bool (if neg then !L.contains a else L.contains a)) := by
  unfold inLD
  simp only [lay_tup, lay_tups, any_tups, Bool.true_and, Bool.and_true, decide_eq_true_eq]
  rw [if_pos (by simpa using depth_tup a)]
theorem cntD_tups {L : List Row} {a : Row} : cntD (.list (L.map tupD)) (tupD a) = some (.int (L.count a : Int)) := by
  unfold cntD
  simp only [lay_tup, lay_tups, cnt_tups, Bool.true_and, Bool.and_true, decide_eq_true_eq]
  rw [if_pos (by simpa using depth_tup a)]
/-! {k: v for .. if ..} -/
def putAllO {α : Type} (f : α → Option (Key × Dat)) (ts : List α) (acc : List (Key × Dat)) : List (Key × Dat) := ts.foldl (fun a t => match f t with | some d => putD a d.1 d.2 | none => a) acc
section
variable {g : MG} {mt : MT} {mk mv : M} {vs : List Nat}
theorem dcL_opt {α : Type} {Γ : Env} (enc : α → Dat) (f : α → Option (Key × Dat)) : ∀ {ts : List α} {acc : List (Key × Dat)}, (∀ t ∈ ts, dcStep g mt mk mv vs (enc t) Γ = some (f t, Γ)) → acc.length + ts.length ≤ lim →
    dcL g mt mk mv vs (ts.map enc) acc Γ = some (putAllO f ts acc, Γ)
  | [], acc, _, _ => rfl
  | t :: ts, acc, h, hl => by
    rw [List.length_cons] at hl
    rw [List.map_cons, dcL_cons (by omega), h t (by simp)]
    simp only [Option.bind_some]
    have e : putAllO f (t :: ts) acc = putAllO f ts (match f t with | some d => putD acc d.1 d.2 | none => acc) := rfl
    rw [e]
    cases f t with
    | none => exact dcL_opt enc f (fun t ht => h t (List.mem_cons_of_mem _ ht)) (by omega)
    | some d =>
      have hp := putD_len (acc := acc) (k := d.1) (d := d.2)
      exact dcL_opt enc f (fun t ht => h t (List.mem_cons_of_mem _ ht)) (by omega)
theorem dc_opt {α : Type} {mi : MI} {Γ Γ0 : Env} {ts : List α} (enc : α → Dat) (f : α → Option (Key × Dat)) (hi : mi Γ = some (ts.map enc, Γ0)) (hp : plainAt Γ0 vs = true)
    (h : ∀ t ∈ ts, dcStep g mt mk mv vs (enc t) (wipeE Γ0 vs) = some (f t, wipeE Γ0 vs)) (hl : ts.length ≤ lim) : mDcomp mi g mt mk mv vs Γ = some (.own (.dct (pairsD (putAllO f ts []))), Γ0) := by
  unfold mDcomp
  rw [hi]
  simp only [Option.bind_some, hp, if_true]
  rw [dcL_opt enc f h (by simpa using hl)]
  simp [putE_wipe]
end
theorem putD_mem {k x : Key} {d : Dat} : ∀ {l : List (Key × Dat)}, x ∈ (putD l k d).map (·.1) ↔ x = k ∨ x ∈ l.map (·.1)
  | [] => by simp [putD]
  | p :: r => by
    have ih := putD_mem (k := k) (x := x) (d := d) (l := r)
    rw [putD]
    by_cases e : p.1 = k
    · rw [if_pos e]; simp [e]
    · rw [if_neg e, List.map_cons, List.mem_cons, ih, List.map_cons, List.mem_cons, or_left_comm]
theorem putAllO_mem {α : Type} {f : α → Option (Key × Dat)} {x : Key} : ∀ {ts : List α} {acc : List (Key × Dat)}, x ∈ (putAllO f ts acc).map (·.1) ↔ (∃ t ∈ ts, ∃ d, f t = some (x, d)) ∨ x ∈ acc.map (·.1)
  | [], acc => by simp [putAllO]
  | t :: ts, acc => by
    have e0 : putAllO f (t :: ts) acc = putAllO f ts (match f t with | some d => putD acc d.1 d.2 | none => acc) := rfl
    rw [e0, putAllO_mem]
    clear e0
    cases h : f t with
    | none =>
      simp only
      constructor
      · rintro (⟨u, hu, d, e⟩ | z)
        · exact .inl ⟨u, List.mem_cons_of_mem _ hu, d, e⟩
        · exact .inr z
      · rintro (⟨u, hu, d, e⟩ | z)
        · rcases List.mem_cons.mp hu with rfl | hu
          · rw [h] at e; cases e
          · exact .inl ⟨u, hu, d, e⟩
        · exact .inr z
    | some q =>
      simp only [putD_mem]
      constructor
      · rintro (⟨u, hu, d, e⟩ | z | z)
        · exact .inl ⟨u, List.mem_cons_of_mem _ hu, d, e⟩
        · exact .inl ⟨t, List.mem_cons_self, q.2, by rw [h, z]⟩
        · exact .inr z
      · rintro (⟨u, hu, d, e⟩ | z)
        · rcases List.mem_cons.mp hu with rfl | hu
          · rw [h] at e; cases e; exact .inr (.inl rfl)
          · exact .inl ⟨u, hu, d, e⟩
        · exact .inr (.inr z)
theorem hasK_pairs {l : List (Key × Dat)} {k : Key} : hasK (pairsD l) k = true ↔ k ∈ l.map (·.1) := by
  unfold hasK pairsD
  rw [List.any_map, List.any_eq_true]
  simp only [Function.comp_def, keyOf_keyD, Option.some.injEq, decide_eq_true_eq, List.mem_map]
end DL


set_option Elab.async false
set_option linter.all false
set_option maxRecDepth 100000
set_option maxHeartbeats 4000000
namespace K60
open PySem L2 DL
def top (i : Nat) : Stmt := PySem.Challenge.pw_kindkey_k60_counts_of_readings_by_what_t.main.body.getD i (.Pass ⟨0, 0, 0, 0⟩)
section
variable [TabsC]
abbrev s_nothing_read : Stmt := top 6
def F_nothing_read : FS := runF 1 1 [] (mRet 1 (mBin gMul (mTup (mDc (mC (.int (-1))) mD0)) (mUn (gSc1 lenD) (mBin gIx (mVar 0) (mC (.int 2))))))
abbrev s_showers : Stmt := top 13
def F_showers : FS := runF 3 5 [] (mRet 3 (mUn gTuple (mLc (mEnum (mBin gIx (mVar 0) (mC (.int 3)))) (setT 2 (setC (setS 3) (setC (setS 4) setN))) (mB (mBin gIn (mVar 2) (mBin gIx (mBin gIx (mVar 4) (mC (.int 2))) (mVar 1)))) (mVar 3) [3, 4])))
abbrev s_traits_of : Stmt := top 15
def F_traits_of : FS := runF 1 1 [] (mRet 1 (mUn gListRg (mUn (gSc1 lenD) (mBin gIx (mVar 0) (mC (.int 2))))))
abbrev s_columns_from : Stmt := top 16
def F_columns_from : FS := runF 2 7 [2, 3, 4, 5, 6] (mSeq (mSet (setS 2) (mLst mD0)) (mSeq (mFor (mZip (mBin gIx (mVar 0) (mC (.int 2))) (mVar 1)) (setT 2 (setC (setT 3 (setC (setS 4) (setC (setS 5) (setC (setS 6) setN)))) (setC (setS 3) setN))) (mDrop (mApp 2 (mIf (mB (mBin gEq (mVar 3) (mC (.int (-1))))) (mUn gListRg (mBin gAdd (mVar 5) (mC (.int 1)))) (mLst (mDc (mVar 3) mD0)))))) (mRet 2 (mVar 2))))
abbrev s_missed : Stmt := top 22
def F_missed : FS := runF 4 7 [4, 5, 6] (mSeq (mSet (setS 4) (mLst mD0)) (mSeq (mFor (mZip (mVar 1) (mBin gIx (mVar 0) (mC (.int 3)))) (setT 2 (setC (setS 5) (setC (setS 6) setN))) (mDrop (mApp 4 (mIf (mB (mBin gIn (mVar 3) (mBin gIx (mBin gIx (mVar 6) (mC (.int 2))) (mVar 2)))) (mVar 5) (mBin gMin2 (mBin gAdd (mVar 5) (mC (.int 1))) (mBin gAdd (mBin gIx (mVar 0) (mC (.int 1))) (mC (.int 1)))))))) (mRet 4 (mUn gTuple (mVar 4)))))
abbrev s_lot_of_row : Stmt := top 24
def F_lot_of_row : FS := runF 2 4 [] (mRet 2 (mUn gTuple (mLc (mEnum (mVar 1)) (setT 2 (setC (setS 2) (setC (setS 3) setN))) (mB (mBin gLe (mVar 3) (mBin gIx (mVar 0) (mC (.int 1))))) (mVar 2) [2, 3])))
abbrev s_ways_for : Stmt := top 32
def F_ways_for : FS := runF 3 13 [3, 4, 5, 6, 7, 8, 9, 10] (mSeq (mSet (setS 3) (mLst (mDc (mC (.int 1)) mD0))) (mSeq (mFor (mZip (mBin gIx (mVar 0) (mC (.int 2))) (mBin gIx (mBin gIx (mBin gIx (mVar 0) (mC (.int 3))) (mVar 1)) (mC (.int 2)))) (setT 2 (setC (setT 3 (setC (setS 6) (setC (setS 7) (setC (setS 8) setN)))) (setC (setS 4) setN))) (mSeq (mSet (setT 2 (setC (setS 9) (setC (setS 10) setN))) (mTup (mDc (mUn (gSc1 lenD) (mVar 4)) (mDc (mBin gSub (mBin gAdd (mVar 7) (mC (.int 1))) (mUn (gSc1 lenD) (mVar 4))) mD0)))) (mSeq (mSet (setS 5) (mBin gAdd (mLc (mSeqI (mVar 3)) (setS 11) mYes (mBin gMul (mVar 11) (mVar 9)) [11]) (mLst (mDc (mC (.int 0)) mD0)))) (mSet (setS 3) (mLc (mZip (mVar 5) (mLst (mDc (mC (.int 0)) (mDs (mVar 3) mD0)))) (setT 2 (setC (setS 11) (setC (setS 12) setN))) mYes (mBin gAdd (mVar 11) (mBin gMul (mVar 12) (mVar 10))) [11, 12]))))) (mRet 3 (mIf (mB (mBin gLt (mVar 2) (mUn (gSc1 lenD) (mVar 3)))) (mBin gIx (mVar 3) (mVar 2)) (mC (.int 0))))))
abbrev s__law_bag : Stmt := top 37
def F__law_bag : FS := runF 1 2 [] (mRet 1 (mLst (mDc (mC (.int 0)) (mDc (mC (.int 1234567891)) (mDc (mC (.int 0)) (mDc (mLc (mSeqI (mSl (mVar 0) mO0 (mO1 (mC (.int 63))))) (setS 1) mYes (mUn (gSc1 absD) (mVar 1)) [1]) mD0))))))
abbrev s__law_take : Stmt := top 38
def F__law_take : FS := runF 2 7 [2, 3, 4, 5, 6] (mSeq (mIfS (mB (mBin gEq (mBin gIx (mVar 0) (mC (.int 0))) (mC (.int 0)))) (mSeq (mSet (setS 2) (mBin gIx (mBin gAdd (mSl (mBin gIx (mVar 0) (mC (.int 3))) (mO1 (mBin gIx (mVar 0) (mC (.int 2)))) mO0) (mLst (mDc (mC (.int 0)) mD0))) (mC (.int 0)))) (mSeq (mAugIx 0 (fun i j => i + j) (mC (.int 2)) (mC (.int 1))) (mSeq (mIfS (mB (mBin gGe (mVar 2) (mBin gPow (mC (.int 10)) (mC (.int 18))))) (mSetIx 0 (mC (.int 0)) (mVar 2)) mNext) (mSeq (mSet (setS 3) (mBin gAdd (mBin gAdd (mBin gMul (mBin gIx (mVar 0) (mC (.int 1))) (mC (.int 48271))) (mBin gMod (mUn (gSc1 intD) (mVar 2)) (mC (.int 2147483647)))) (mBin gMul (mC (.int 7919)) (mBin gIx (mVar 0) (mC (.int 2)))))) (mSetIx 0 (mC (.int 1)) (mBin gMod (mUn (gSc1 intD) (mVar 3)) (mC (.int 2147483647)))))))) mNext) (mSeq (mIfS (mB (mBin gGt (mBin gIx (mVar 0) (mC (.int 0))) (mC (.int 0)))) (mSeq (mSet (setS 4) (mBin gMod (mUn (gSc1 intD) (mBin gIx (mVar 0) (mC (.int 0)))) (mVar 1))) (mSeq (mSetIx 0 (mC (.int 0)) (mBin gFdiv (mUn (gSc1 intD) (mBin gIx (mVar 0) (mC (.int 0)))) (mVar 1))) (mRet 2 (mVar 4)))) mNext) (mSeq (mSet (setS 5) (mBin gMod (mUn (gSc1 intD) (mBin gMul (mBin gAdd (mBin gIx (mVar 0) (mC (.int 1))) (mC (.int 1))) (mC (.int 39373)))) (mC (.int 1000000007)))) (mSeq (mSet (setS 6) (mBin gMod (mUn (gSc1 intD) (mBin gMul (mBin gMod (mUn (gSc1 intD) (mBin gMul (mVar 5) (mVar 5))) (mC (.int 998244353))) (mC (.int 30011)))) (mC (.int 998244353)))) (mRet 2 (mBin gMod (mUn (gSc1 intD) (mBin gFdiv (mVar 6) (mC (.int 7)))) (mVar 1)))))))
abbrev s__law_alike : Stmt := top 40
def F__law_alike : FS := runF 2 6 [2, 3, 4, 5] (mSeq (mPar [2, 3] (mAc (mLst (mDc (mTup (mDc (mVar 0) (mDc (mVar 1) mD0))) mD0)) (mAc (mC (.int 0)) mA0))) (mSeq (whL (mB (mBin gLt (mVar 3) (mUn (gSc1 lenD) (mVar 2)))) (mSeq (mSet (setT 2 (setC (setS 4) (setC (setS 5) setN))) (mBin gIx (mVar 2) (mVar 3))) (mSeq (mAug 3 (fun i j => i + j) (mC (.int 1))) (mSeq (mIfS (mOrT (mB (mBin gNe (mIsi .bool (mVar 4)) (mIsi .bool (mVar 5)))) (mB (mBin gNe (mIsi .str (mVar 4)) (mIsi .str (mVar 5))))) (mRet 2 (mC (.bool false))) mNext) (mSeq (mIfS (mB (mBin gNe (mIsi2 .tup .lst (mVar 4)) (mIsi2 .tup .lst (mVar 5)))) (mRet 2 (mC (.bool false))) mNext) (mIfS (mTru (mIsi2 .tup .lst (mVar 4))) (mSeq (mIfS (mOrT (mB (mBin gNe (mIsi .tup (mVar 4)) (mIsi .tup (mVar 5)))) (mB (mBin gNe (mUn (gSc1 lenD) (mVar 4)) (mUn (gSc1 lenD) (mVar 5))))) (mRet 2 (mC (.bool false))) mNext) (mDrop (mExt 2 (mListZip (mVar 4) (mVar 5))))) (mIfS (mB (mBin gNe (mVar 4) (mVar 5))) (mRet 2 (mC (.bool false))) mNext)))))) fuel) (mRet 2 (mC (.bool true)))))
abbrev s__law_rows_of : Stmt := top 41
def F__law_rows_of : FS := runF 1 6 [1, 2, 3, 4] (mSeq (mSet (setS 1) (mLst (mDc (mTup mD0) mD0))) (mSeq (mFor (mSeqI (mVar 0)) (setS 2) (mSeq (mSet (setS 3) (mLst mD0)) (mSeq (mFor (mSeqI (mVar 1)) (setS 4) (mSet (setS 3) (mBin gAdd (mVar 3) (mLc (mSeqI (mVar 2)) (setS 5) mYes (mBin gAdd (mVar 4) (mTup (mDc (mVar 5) mD0))) [5])))) (mSet (setS 1) (mVar 3))))) (mRet 1 (mVar 1))))
abbrev s__law_misses : Stmt := top 42
def F__law_misses : FS := runF 3 5 [] (mRet 3 (mUn gTuple (mLc (mEnum (mVar 2)) (setT 2 (setC (setS 3) (setC (setS 4) setN))) (mAndT (mB (mBin gGe (mVar 4) (mC (.int 0)))) (mB (mBin gNin (mVar 4) (mBin gIx (mBin gIx (mBin gIx (mBin gIx (mVar 0) (mC (.int 3))) (mVar 1)) (mC (.int 2))) (mVar 3))))) (mVar 3) [3, 4])))
abbrev s__law_groups : Stmt := top 44
def F__law_groups : FS := runF 2 3 [] (mRet 2 (mUn gSortSet (mLc (mSeqI (mVar 1)) (setS 2) mYes (mBin gIx (mBin gIx (mBin gIx (mVar 0) (mC (.int 3))) (mVar 2)) (mC (.int 1))) [2])))
abbrev s_classes_of : Stmt := top 14
def F_classes_of : FS := runF 2 5 [2, 3] (mSeq (mSet (setS 2) mDictL) (mSeq (mFor (mRange1 (mBin gAdd (mBin gIx (mBin gIx (mBin gIx (mVar 0) (mC (.int 2))) (mVar 1)) (mC (.int 1))) (mC (.int 1)))) (setS 3) (mDrop (mSdApp 2 3 (mCall 3 F_showers (mAc (mVar 0) (mAc (mVar 1) (mAc (mVar 3) mA0))))))) (mRet 2 (mUn gTuple (mLc (mValuesL 2) (setS 4) mYes (mUn gTuple (mVar 4)) [4])))))
abbrev s_many_from : Stmt := top 17
def F_many_from : FS := runF 2 4 [2, 3] (mSeq (mSet (setS 2) (mC (.int 1))) (mSeq (mFor (mSeqI (mCall 2 F_columns_from (mAc (mVar 0) (mAc (mVar 1) mA0)))) (setS 3) (mAugM 2 (mUn (gSc1 lenD) (mVar 3)))) (mRet 2 (mVar 2))))
abbrev s_many_of_kind : Stmt := top 33
def F_many_of_kind : FS := runF 2 3 [] (mRet 2 (mUn (gSc1 sumD) (mLc (mRange1 (mBin gAdd (mBin gIx (mVar 0) (mC (.int 1))) (mC (.int 1)))) (setS 2) mYes (mCall 3 F_ways_for (mAc (mVar 0) (mAc (mVar 1) (mAc (mVar 2) mA0)))) [2])))
abbrev s__law_some : Stmt := top 39
def F__law_some : FS := runF 2 2 [] (mRet 2 (mBin gIx (mVar 1) (mCall 2 F__law_take (mAc (mVar 0) (mAc (mUn (gSc1 lenD) (mVar 1)) mA0)))))
abbrev s__law_told : Stmt := top 43
def F__law_told : FS := runF 2 3 [] (mRet 2 (mUn gTuple (mLc (mRange1 (mUn (gSc1 lenD) (mBin gIx (mVar 0) (mC (.int 3))))) (setS 2) (mB (mBin gLe (mUn (gSc1 lenD) (mCall 3 F__law_misses (mAc (mVar 0) (mAc (mVar 2) (mAc (mVar 1) mA0))))) (mBin gIx (mVar 0) (mC (.int 1))))) (mVar 2) [2])))
abbrev s__law_wholes : Stmt := top 45
def F__law_wholes : FS := runF 1 4 [] (mRet 1 (mCall 1 F__law_rows_of (mAc (mLc (mSeqI (mBin gIx (mVar 0) (mC (.int 2)))) (setT 3 (setC (setS 1) (setC (setS 2) (setC (setS 3) setN)))) mYes (mUn gListRg (mBin gAdd (mVar 2) (mC (.int 1)))) [1, 2, 3]) mA0)))
abbrev s__law_states : Stmt := top 46
def F__law_states : FS := runF 2 4 [2] (mSeq (mSet (setS 2) (mLc (mRange1 (mBin gAdd (mVar 1) (mC (.int 1)))) (setS 3) (mB (mBin gEq (mCall 2 F__law_take (mAc (mVar 0) (mAc (mC (.int 3)) mA0))) (mC (.int 0)))) (mVar 3) [3])) (mRet 2 (mIf (mB (mBin gNe (mVar 2) (mLst mD0))) (mUn gTuple (mVar 2)) (mTup (mDc (mCall 2 F__law_take (mAc (mVar 0) (mAc (mBin gAdd (mVar 1) (mC (.int 1))) mA0))) mD0)))))
abbrev s__law_reading : Stmt := top 50
def F__law_reading : FS := runF 2 5 [] (mRet 2 (mUn gTuple (mLc (mSeqI (mBin gIx (mVar 1) (mC (.int 2)))) (setT 3 (setC (setS 2) (setC (setS 3) (setC (setS 4) setN)))) mYes (mBin gSub (mCall 2 F__law_take (mAc (mVar 0) (mAc (mBin gAdd (mVar 3) (mC (.int 2))) mA0))) (mC (.int 1))) [2, 3, 4])))
abbrev s_columns_by : Stmt := top 21
def F_columns_by : FS := runF 3 4 [] (mSeq (mIfS (mB (mBin gNe (mVar 2) (mC (.int (-1))))) (mRet 3 (mLst (mDc (mTup (mDc (mVar 2) (mDc (mC (.int 1)) mD0))) mD0))) mNext) (mRet 3 (mLc (mSeqI (mCall 2 F_classes_of (mAc (mVar 0) (mAc (mVar 1) mA0)))) (setS 3) mYes (mTup (mDc (mBin gIx (mVar 3) (mC (.int 0))) (mDc (mUn (gSc1 lenD) (mVar 3)) mD0))) [3])))
abbrev s__law_a_kind : Stmt := top 47
def F__law_a_kind : FS := runF 3 6 [] (mRet 3 (mTup (mDc (mVar 1) (mDc (mCall 2 F__law_some (mAc (mVar 0) (mAc (mLst (mDc (mC (.str "night")) (mDc (mC (.str "yard")) mD0))) mA0))) (mDc (mUn gTuple (mLc (mSeqI (mVar 2)) (setT 3 (setC (setS 3) (setC (setS 4) (setC (setS 5) setN)))) mYes (mCall 2 F__law_states (mAc (mVar 0) (mAc (mVar 4) mA0))) [3, 4, 5])) mD0)))))
abbrev s__law_counted : Stmt := top 51
def F__law_counted : FS := runF 2 5 [2, 3, 4] (mSeq (mSet (setS 2) mDictT) (mSeq (mFor (mSeqI (mVar 1)) (setS 3) (mSeq (mSet (setS 4) (mCall 2 F__law_told (mAc (mVar 0) (mAc (mVar 3) mA0)))) (mPutT 2 (mVar 4) (mBin gAdd (mGetT 2 (mVar 4) (mC (.int 0))) (mC (.int 1)))))) (mRet 2 (mUn gTuple (mSortI 2)))))
abbrev s__law_on : Stmt := top 52
def F__law_on : FS := runF 2 5 [] (mRet 2 (mLc (mSeqI (mCall 1 F__law_wholes (mAc (mVar 0) mA0))) (setS 2) (mB (mBin gEq (mLc (mZip (mVar 1) (mVar 2)) (setT 2 (setC (setS 3) (setC (setS 4) setN))) (mB (mBin gNin (mVar 3) (mTup (mDc (mUn gNeg (mC (.int 1))) (mDc (mVar 4) mD0))))) (mC (.int 1)) [3, 4]) (mLst mD0))) (mVar 2) [2]))
abbrev s_rows_behind : Stmt := top 23
def F_rows_behind : FS := runF 4 10 [4, 5, 6, 7, 8, 9] (mSeq (mSet (setS 4) mDictT) (mSeq (mFor (mItemsT 1) (setT 2 (setC (setS 5) (setC (setS 6) setN))) (mFor (mSeqI (mCall 3 F_columns_by (mAc (mVar 0) (mAc (mVar 2) (mAc (mVar 3) mA0))))) (setT 2 (setC (setS 7) (setC (setS 8) setN))) (mSeq (mSet (setS 9) (mCall 4 F_missed (mAc (mVar 0) (mAc (mVar 5) (mAc (mVar 2) (mAc (mVar 7) mA0)))))) (mPutT 4 (mVar 9) (mBin gAdd (mGetT 4 (mVar 9) (mC (.int 0))) (mBin gMul (mVar 6) (mVar 8))))))) (mSeq (mIfS (mB (mBin gGt (mUn (gSc1 lenDD) (mVar 4)) (mC (.int 5000)))) mNever mNext) (mRet 4 (mVar 4)))))
abbrev s__law_book : Stmt := top 48
def F__law_book : FS := runF 1 5 [1, 2, 4] (mSeq (mSet (setS 1) (mSl (mLst (mDc (mC (.str "beak")) (mDc (mC (.str "leg")) (mDc (mC (.str "wing")) (mDc (mC (.str "song")) mD0))))) mO0 (mO1 (mBin gAdd (mC (.int 2)) (mCall 2 F__law_take (mAc (mVar 0) (mAc (mC (.int 3)) mA0))))))) (mSeq (mSet (setS 2) (mUn gTuple (mLc (mSeqI (mVar 1)) (setS 3) mYes (mTup (mDc (mVar 3) (mDc (mBin gAdd (mC (.int 1)) (mCall 2 F__law_take (mAc (mVar 0) (mAc (mC (.int 2)) mA0)))) (mDc (mBin gAdd (mC (.int 1)) (mCall 2 F__law_take (mAc (mVar 0) (mAc (mC (.int 4)) mA0)))) mD0)))) [3]))) (mSeq (mSet (setS 4) (mUn gTuple (mLc (mSeqI (mSl (mLst (mDc (mC (.str "owl")) (mDc (mC (.str "hen")) (mDc (mC (.str "bat")) (mDc (mC (.str "crow")) (mDc (mC (.str "jay")) mD0)))))) mO0 (mO1 (mBin gAdd (mC (.int 2)) (mCall 2 F__law_take (mAc (mVar 0) (mAc (mC (.int 4)) mA0))))))) (setS 3) mYes (mCall 3 F__law_a_kind (mAc (mVar 0) (mAc (mVar 3) (mAc (mVar 2) mA0)))) [3]))) (mRet 1 (mTup (mDc (mC (.str "drawn")) (mDc (mCall 2 F__law_some (mAc (mVar 0) (mAc (mLst (mDc (mC (.int 0)) (mDc (mC (.int 1)) (mDc (mC (.int 1)) (mDc (mC (.int 0)) (mDc (mC (.int 2)) mD0)))))) mA0))) (mDc (mVar 2) (mDc (mVar 4) mD0)))))))))
abbrev s__law_turned : Stmt := top 49
def F__law_turned : FS := runF 2 17 [2, 3, 4, 5, 6, 7, 8, 9, 10, 11, 12, 13, 16] (mSeq (mSet (setT 4 (setC (setS 2) (setC (setS 3) (setC (setS 4) (setC (setS 5) setN))))) (mVar 1)) (mSeq (mPar [6, 7, 8] (mAc (mCall 2 F__law_take (mAc (mVar 0) (mAc (mC (.int 7)) mA0))) (mAc (mCall 2 F__law_take (mAc (mVar 0) (mAc (mUn (gSc1 lenD) (mVar 5)) mA0))) (mAc (mCall 2 F__law_take (mAc (mVar 0) (mAc (mUn (gSc1 lenD) (mVar 4)) mA0))) mA0)))) (mSeq (mSet (setT 3 (setC (setS 9) (setC (setS 10) (setC (setS 11) setN)))) (mBin gIx (mVar 5) (mVar 7))) (mSeq (mIfS (mB (mBin gEq (mVar 6) (mC (.int 0)))) (mRet 2 (mTup (mDc (mVar 2) (mDc (mCall 2 F__law_take (mAc (mVar 0) (mAc (mC (.int 3)) mA0))) (mDc (mVar 4) (mDc (mVar 5) mD0)))))) mNext) (mSeq (mIfS (mB (mBin gEq (mVar 6) (mC (.int 1)))) (mSeq (mSet (setS 12) (mBin gAdd (mSl (mBin gIx (mVar 4) (mVar 8)) mO0 (mO1 (mC (.int 2)))) (mTup (mDc (mBin gAdd (mC (.int 1)) (mCall 2 F__law_take (mAc (mVar 0) (mAc (mC (.int 9)) mA0)))) mD0)))) (mRet 2 (mTup (mDc (mVar 2) (mDc (mVar 3) (mDc (mBin gAdd (mBin gAdd (mSl (mVar 4) mO0 (mO1 (mVar 8))) (mTup (mDc (mVar 12) mD0))) (mSl (mVar 4) (mO1 (mBin gAdd (mVar 8) (mC (.int 1)))) mO0)) (mDc (mVar 5) mD0))))))) mNext) (mSeq (mIfS (mAndT (mB (mBin gEq (mVar 6) (mC (.int 2)))) (mB (mBin gLt (mUn (gSc1 lenD) (mVar 5)) (mC (.int 7))))) (mSeq (mSet (setS 13) (mLc (mSeqI (mLst (mDc (mC (.str "ka")) (mDc (mC (.str "kb")) (mDc (mC (.str "kc")) (mDc (mC (.str "kd")) (mDc (mC (.str "ke")) (mDc (mC (.str "kf")) (mDc (mC (.str "kg")) mD0))))))))) (setS 14) (mB (mBin gNin (mVar 14) (mLc (mSeqI (mVar 5)) (setS 15) mYes (mBin gIx (mVar 15) (mC (.int 0))) [15]))) (mVar 14) [14])) (mRet 2 (mTup (mDc (mVar 2) (mDc (mVar 3) (mDc (mVar 4) (mDc (mBin gAdd (mBin gAdd (mSl (mVar 5) mO0 (mO1 (mVar 7))) (mTup (mDc (mCall 3 F__law_a_kind (mAc (mVar 0) (mAc (mBin gIx (mVar 13) (mC (.int 0))) (mAc (mVar 4) mA0)))) mD0))) (mSl (mVar 5) (mO1 (mVar 7)) mO0)) mD0))))))) mNext) (mSeq (mIfS (mAndT (mB (mBin gEq (mVar 6) (mC (.int 3)))) (mB (mBin gGt (mUn (gSc1 lenD) (mVar 5)) (mC (.int 2))))) (mRet 2 (mTup (mDc (mVar 2) (mDc (mVar 3) (mDc (mVar 4) (mDc (mBin gAdd (mSl (mVar 5) mO0 (mO1 (mVar 7))) (mSl (mVar 5) (mO1 (mBin gAdd (mVar 7) (mC (.int 1)))) mO0)) mD0)))))) mNext) (mSeq (mIfS (mB (mBin gEq (mVar 6) (mC (.int 4)))) (mRet 2 (mTup (mDc (mVar 2) (mDc (mVar 3) (mDc (mVar 4) (mDc (mBin gAdd (mBin gAdd (mSl (mVar 5) mO0 (mO1 (mVar 7))) (mTup (mDc (mTup (mDc (mVar 9) (mDc (mCall 2 F__law_some (mAc (mVar 0) (mAc (mLst (mDc (mC (.str "night")) (mDc (mC (.str "yard")) mD0))) mA0))) (mDc (mVar 11) mD0)))) mD0))) (mSl (mVar 5) (mO1 (mBin gAdd (mVar 7) (mC (.int 1)))) mO0)) mD0)))))) mNext) (mSeq (mSet (setS 16) (mBin gAdd (mBin gAdd (mSl (mVar 11) mO0 (mO1 (mVar 8))) (mTup (mDc (mCall 2 F__law_states (mAc (mVar 0) (mAc (mBin gIx (mBin gIx (mVar 4) (mVar 8)) (mC (.int 1))) mA0))) mD0))) (mSl (mVar 11) (mO1 (mBin gAdd (mVar 8) (mC (.int 1)))) mO0))) (mRet 2 (mTup (mDc (mVar 2) (mDc (mVar 3) (mDc (mVar 4) (mDc (mBin gAdd (mBin gAdd (mSl (mVar 5) mO0 (mO1 (mVar 7))) (mTup (mDc (mTup (mDc (mVar 9) (mDc (mVar 10) (mDc (mVar 16) mD0)))) mD0))) (mSl (mVar 5) (mO1 (mBin gAdd (mVar 7) (mC (.int 1)))) mO0)) mD0)))))))))))))))
abbrev s_tally_from : Stmt := top 25
def F_tally_from : FS := runF 2 9 [2, 3, 5, 6, 7, 8] (mSeq (mPar [2, 3] (mAc (mDisT (mUn gTuple (mLc (mSeqI (mBin gIx (mVar 0) (mC (.int 3)))) (setS 4) mYes (mC (.int 0)) [4])) (mC (.int 1))) (mAc mDictT mA0))) (mSeq (mFor (mSeqI (mCall 1 F_traits_of (mAc (mVar 0) mA0))) (setS 5) (mSet (setS 2) (mCall 4 F_rows_behind (mAc (mVar 0) (mAc (mVar 2) (mAc (mVar 5) (mAc (mBin gIx (mVar 1) (mVar 5)) mA0))))))) (mSeq (mFor (mItemsT 2) (setT 2 (setC (setS 6) (setC (setS 7) setN))) (mSeq (mSet (setS 8) (mCall 2 F_lot_of_row (mAc (mVar 0) (mAc (mVar 6) mA0)))) (mPutT 3 (mVar 8) (mBin gAdd (mGetT 3 (mVar 8) (mC (.int 0))) (mVar 7))))) (mRet 2 (mUn gTuple (mSortI 3))))))
def F_tally_from_z : FS := runF 2 9 [2, 3, 5, 6, 7, 8] (mSeq (mPar [2, 3] (mAc (mDisT (mUn gTuple (mLc (mSeqI (mBin gIx (mVar 0) (mC (.int 3)))) (setS 4) mYes (mC (.int 0)) [4])) (mC (.int 1))) (mAc mDictT mA0))) (mSeq (mFor (mSeqI (mCall 1 F_traits_of (mAc (mVar 0) mA0))) (setS 5) (mSet (setS 2) (mCall 4 F_rows_behind (mAc (mVar 0) (mAc (mVar 2) (mAc (mVar 5) (mAc (mBin gIx (mVar 1) (mVar 5)) mA0))))))) (mSeq (mFor (mItemsT 2) (setT 2 (setC (setS 6) (setC (setS 7) setN))) (mSeq (mSet (setS 8) (mCall 2 F_lot_of_row (mAc (mVar 0) (mAc (mVar 6) mA0)))) (mPutT 3 (mVar 8) (mBin gAdd (mGetT 3 (mVar 8) (mC (.int 0))) (mVar 7))))) (mRet 2 (mUn gTupZ (mSortI 3))))))
abbrev s_tally : Stmt := top 26
def F_tally : FS := runF 1 1 [] (mRet 1 (mCall 2 F_tally_from (mAc (mVar 0) (mAc (mCall 1 F_nothing_read (mAc (mVar 0) mA0)) mA0))))
def F_tally_z : FS := runF 1 1 [] (mRet 1 (mCall 2 F_tally_from_z (mAc (mVar 0) (mAc (mCall 1 F_nothing_read (mAc (mVar 0) mA0)) mA0))))
abbrev s_many_telling : Stmt := top 27
def F_many_telling : FS := runF 2 2 [] (mRet 2 (mGetO (mUn gDictZ (mCall 1 F_tally_z (mAc (mVar 0) mA0))) (mVar 1) (mC (.int 0))))
abbrev s_many_fitting : Stmt := top 28
def F_many_fitting : FS := runF 2 5 [] (mRet 2 (mUn (gSc1 sumD) (mLc (mSeqI (mCall 1 F_tally (mAc (mVar 0) mA0))) (setT 2 (setC (setS 2) (setC (setS 3) setN))) (mTru (mUn (gSc1 allD) (mLc (mSeqI (mVar 1)) (setS 4) mYes (mBin gIn (mVar 4) (mVar 2)) [4]))) (mVar 3) [2, 3])))
abbrev s_many_sure : Stmt := top 30
def F_many_sure : FS := runF 1 3 [] (mRet 1 (mUn (gSc1 sumD) (mLc (mSeqI (mCall 1 F_tally (mAc (mVar 0) mA0))) (setT 2 (setC (setS 1) (setC (setS 2) setN))) (mB (mBin gEq (mUn (gSc1 lenD) (mVar 1)) (mC (.int 1)))) (mVar 2) [1, 2])))
abbrev s_many_sure_of_group : Stmt := top 31
def F_many_sure_of_group : FS := runF 1 7 [1, 2, 3, 4] (mSeq (mSet (setS 1) (mC (.int 0))) (mSeq (mFor (mSeqI (mCall 1 F_tally (mAc (mVar 0) mA0))) (setT 2 (setC (setS 2) (setC (setS 3) setN))) (mSeq (mSet (setS 4) (mLc (mSeqI (mVar 2)) (setS 5) mYes (mBin gIx (mBin gIx (mBin gIx (mVar 0) (mC (.int 3))) (mVar 5)) (mC (.int 1))) [5])) (mAug 1 (fun i j => i + j) (mIf (mAndT (mTru (mVar 4)) (mTru (mUn (gSc1 allD) (mLc (mSeqI (mVar 4)) (setS 6) mYes (mBin gEq (mVar 6) (mBin gIx (mVar 4) (mC (.int 0)))) [6])))) (mVar 3) (mC (.int 0)))))) (mRet 1 (mVar 1))))
abbrev s_kinds_in_all : Stmt := top 34
def F_kinds_in_all : FS := runF 1 3 [] (mRet 1 (mTup (mDc (mUn (gSc1 sumD) (mLc (mSeqI (mCall 1 F_tally (mAc (mVar 0) mA0))) (setT 2 (setC (setS 1) (setC (setS 2) setN))) mYes (mBin gMul (mUn (gSc1 lenD) (mVar 1)) (mVar 2)) [1, 2])) (mDc (mCall 2 F_many_from (mAc (mVar 0) (mAc (mCall 1 F_nothing_read (mAc (mVar 0) mA0)) mA0))) mD0))))
abbrev s_never_told : Stmt := top 35
def F_never_told : FS := runF 1 5 [1] (mSeq (mSet (setS 1) (mDcomp (mSeqI (mCall 1 F_tally (mAc (mVar 0) mA0))) (setT 2 (setC (setS 2) (setC (setS 3) setN))) (mB (mBin gEq (mUn (gSc1 lenD) (mVar 2)) (mC (.int 1)))) (mBin gIx (mVar 2) (mC (.int 0))) (mC (.bool true)) [2, 3])) (mRet 1 (mUn gTuple (mLc (mRange1 (mUn (gSc1 lenD) (mBin gIx (mVar 0) (mC (.int 3))))) (setS 4) (mB (mInK true 1 (mVar 4))) (mVar 4) [4]))))
abbrev s_many_strange : Stmt := top 29
def F_many_strange : FS := runF 1 1 [] (mRet 1 (mCall 2 F_many_telling (mAc (mVar 0) (mAc (mTup mD0) mA0))))
abbrev s_law : Stmt := top 53
def F_law : FS := runF 1 21 [1, 2, 3, 4, 5, 6, 7, 8, 9, 10, 11, 12, 13, 14, 15, 17, 18] (mSeq (mSet (setS 1) (mCall 1 F__law_bag (mAc (mVar 0) mA0))) (mSeq (mFor (mRange1 (mC (.int 4))) (setS 2) (mSeq (mSet (setS 3) (mCall 2 F__law_turned (mAc (mVar 1) (mAc (mCall 1 F__law_book (mAc (mVar 1) mA0)) mA0)))) (mSeq (mSet (setS 4) (mCall 1 F__law_wholes (mAc (mVar 3) mA0))) (mSeq (mSet (setS 5) (mLc (mSeqI (mVar 4)) (setS 16) mYes (mCall 2 F__law_told (mAc (mVar 3) (mAc (mVar 16) mA0))) [16])) (mSeq (mSet (setS 6) (mLc (mSeqI (mVar 5)) (setS 12) (mB (mBin gEq (mUn (gSc1 lenD) (mVar 12)) (mC (.int 1)))) (mVar 12) [12])) (mSeq (mSet (setS 7) (mLc (mSeqI (mVar 5)) (setS 12) (mB (mBin gEq (mUn (gSc1 lenD) (mCall 2 F__law_groups (mAc (mVar 3) (mAc (mVar 12) mA0)))) (mC (.int 1)))) (mVar 12) [12])) (mSeq (mSet (setS 8) (mLst (mDc (mCall 1 F_tally (mAc (mVar 3) mA0)) (mDc (mCall 1 F_many_strange (mAc (mVar 3) mA0)) (mDc (mCall 1 F_many_sure (mAc (mVar 3) mA0)) (mDc (mCall 1 F_many_sure_of_group (mAc (mVar 3) mA0)) (mDc (mCall 1 F_kinds_in_all (mAc (mVar 3) mA0)) mD0))))))) (mSeq (mSet (setS 9) (mLst (mDc (mCall 2 F__law_counted (mAc (mVar 3) (mAc (mVar 4) mA0))) (mDc (mCount (mVar 5) (mTup mD0)) (mDc (mUn (gSc1 lenD) (mVar 6)) (mDc (mUn (gSc1 lenD) (mVar 7)) (mDc (mTup (mDc (mUn (gSc1 sumD) (mLc (mSeqI (mVar 5)) (setS 12) mYes (mUn (gSc1 lenD) (mVar 12)) [12])) (mDc (mUn (gSc1 lenD) (mVar 4)) mD0))) mD0))))))) (mSeq (mIfS (mNotT (mTru (mCall 2 F__law_alike (mAc (mVar 8) (mAc (mVar 9) mA0))))) (mRet 1 (mC (.bool false))) mNext) (mSeq (mSet (setS 10) (mUn gTuple (mLc (mRange1 (mUn (gSc1 lenD) (mBin gIx (mVar 3) (mC (.int 3))))) (setS 18) (mB (mBin gNinL (mTup (mDc (mVar 18) mD0)) (mVar 5))) (mVar 18) [18]))) (mSeq (mIfS (mNotT (mTru (mCall 2 F__law_alike (mAc (mCall 1 F_never_told (mAc (mVar 3) mA0)) (mAc (mVar 10) mA0))))) (mRet 1 (mC (.bool false))) mNext) (mFor (mRange1 (mC (.int 4))) (setS 11) (mSeq (mSet (setT 2 (setC (setS 17) (setC (setS 18) setN))) (mTup (mDc (mCall 2 F__law_reading (mAc (mVar 1) (mAc (mVar 3) mA0))) (mDc (mCall 2 F__law_take (mAc (mVar 1) (mAc (mUn (gSc1 lenD) (mBin gIx (mVar 3) (mC (.int 3)))) mA0))) mD0)))) (mSeq (mIfS (mNotT (mTru (mCall 2 F__law_alike (mAc (mCall 2 F_tally_from (mAc (mVar 3) (mAc (mVar 17) mA0))) (mAc (mCall 2 F__law_counted (mAc (mVar 3) (mAc (mCall 2 F__law_on (mAc (mVar 3) (mAc (mVar 17) mA0))) mA0))) mA0))))) (mRet 1 (mC (.bool false))) mNext) (mSeq (mSet (setS 12) (mCall 2 F__law_some (mAc (mVar 1) (mAc (mBin gAdd (mVar 5) (mLst (mDc (mTup mD0) (mDc (mTup (mDc (mVar 18) mD0)) (mDc (mUn gTuple (mUn gListRg (mUn (gSc1 lenD) (mBin gIx (mVar 3) (mC (.int 3)))))) mD0))))) mA0)))) (mSeq (mSet (setS 13) (mLc (mSeqI (mVar 5)) (setS 19) (mB (mBin gEq (mLc (mSeqI (mVar 12)) (setS 20) (mB (mBin gNin (mVar 20) (mVar 19))) (mVar 20) [20]) (mLst mD0))) (mVar 19) [19])) (mSeq (mIfS (mNotT (mTru (mCall 2 F__law_alike (mAc (mLst (mDc (mCall 2 F_many_telling (mAc (mVar 3) (mAc (mVar 12) mA0))) (mDc (mCall 2 F_many_fitting (mAc (mVar 3) (mAc (mVar 12) mA0))) mD0))) (mAc (mLst (mDc (mCount (mVar 5) (mVar 12)) (mDc (mUn (gSc1 lenD) (mVar 13)) mD0))) mA0))))) (mRet 1 (mC (.bool false))) mNext) (mSeq (mSet (setS 14) (mCall 2 F__law_take (mAc (mVar 1) (mAc (mBin gAdd (mUn (gSc1 lenD) (mBin gIx (mVar 3) (mC (.int 2)))) (mC (.int 2))) mA0)))) (mSeq (mSet (setS 15) (mLc (mSeqI (mVar 4)) (setS 16) (mB (mBin gEq (mUn (gSc1 lenD) (mCall 3 F__law_misses (mAc (mVar 3) (mAc (mVar 18) (mAc (mVar 16) mA0))))) (mVar 14))) (mVar 16) [16])) (mIfS (mNotT (mTru (mCall 2 F__law_alike (mAc (mLst (mDc (mCall 3 F_ways_for (mAc (mVar 3) (mAc (mVar 18) (mAc (mVar 14) mA0)))) (mDc (mCall 2 F_many_of_kind (mAc (mVar 3) (mAc (mVar 18) mA0))) mD0))) (mAc (mLst (mDc (mUn (gSc1 lenD) (mVar 15)) (mDc (mUn (gSc1 lenD) (mLc (mSeqI (mVar 5)) (setS 12) (mB (mBin gIn (mVar 18) (mVar 12))) (mVar 12) [12])) mD0))) mA0))))) (mRet 1 (mC (.bool false))) mNext)))))))))))))))))))) (mRet 1 (mC (.bool true)))))
structure Fx (K : PySem.W.Frag) (mg : Str → Option Value) (base : Heap) : Prop where
  fr_abs : mg "abs" = none
  fr_all : mg "all" = none
  fr_bool : mg "bool" = none
  fr_dict : mg "dict" = none
  fr_enumerate : mg "enumerate" = none
  fr_int : mg "int" = none
  fr_isinstance : mg "isinstance" = none
  fr_len : mg "len" = none
  fr_list : mg "list" = none
  fr_min : mg "min" = none
  fr_range : mg "range" = none
  fr_set : mg "set" = none
  fr_sorted : mg "sorted" = none
  fr_str : mg "str" = none
  fr_sum : mg "sum" = none
  fr_tuple : mg "tuple" = none
  fr_zip : mg "zip" = none
  c_ERRORS : ∃ t, mg "ERRORS" = some (.int (1) t)
  c_KINDS : ∃ t, mg "KINDS" = some (.int (3) t)
  c_MOST : ∃ t, mg "MOST" = some (.int (1) t)
  c_MOST_ROWS : ∃ t, mg "MOST_ROWS" = some (.int (5000) t)
  c_SHOWS : ∃ t, mg "SHOWS" = some (.int (2) t)
  c_TRAITS : ∃ t, mg "TRAITS" = some (.int (2) t)
  c_UNREAD_plain : ∃ t, mg "UNREAD_plain" = some (.int (-1) t)
  c_UNREAD_readings : ∃ t, mg "UNREAD_readings" = some (.int (-1) t)
  fd_nothing_read : ∃ (f : Addr) (fd : FuncData), L2.FunD K "nothing_read" "nothing_read" (defArgs s_nothing_read) (defBody s_nothing_read) (defScope s_nothing_read) [] [] f fd ∧ mg "nothing_read" = some (.ref f)
  fd_showers : ∃ (f : Addr) (fd : FuncData), L2.FunD K "showers" "showers" (defArgs s_showers) (defBody s_showers) (defScope s_showers) [] [] f fd ∧ mg "showers" = some (.ref f)
  fd_traits_of : ∃ (f : Addr) (fd : FuncData), L2.FunD K "traits_of" "traits_of" (defArgs s_traits_of) (defBody s_traits_of) (defScope s_traits_of) [] [] f fd ∧ mg "traits_of" = some (.ref f)
  fd_columns_from : ∃ (f : Addr) (fd : FuncData), L2.FunD K "columns_from" "columns_from" (defArgs s_columns_from) (defBody s_columns_from) (defScope s_columns_from) [] [] f fd ∧ mg "columns_from" = some (.ref f)
  fd_missed : ∃ (f : Addr) (fd : FuncData), L2.FunD K "missed" "missed" (defArgs s_missed) (defBody s_missed) (defScope s_missed) [] [] f fd ∧ mg "missed" = some (.ref f)
  fd_lot_of_row : ∃ (f : Addr) (fd : FuncData), L2.FunD K "lot_of_row" "lot_of_row" (defArgs s_lot_of_row) (defBody s_lot_of_row) (defScope s_lot_of_row) [] [] f fd ∧ mg "lot_of_row" = some (.ref f)
  fd_ways_for : ∃ (f : Addr) (fd : FuncData), L2.FunD K "ways_for" "ways_for" (defArgs s_ways_for) (defBody s_ways_for) (defScope s_ways_for) [] [] f fd ∧ mg "ways_for" = some (.ref f)
  fd__law_bag : ∃ (f : Addr) (fd : FuncData), L2.FunD K "_law_bag" "_law_bag" (defArgs s__law_bag) (defBody s__law_bag) (defScope s__law_bag) [] [] f fd ∧ mg "_law_bag" = some (.ref f)
  fd__law_take : ∃ (f : Addr) (fd : FuncData), L2.FunD K "_law_take" "_law_take" (defArgs s__law_take) (defBody s__law_take) (defScope s__law_take) [] [] f fd ∧ mg "_law_take" = some (.ref f)
  fd__law_alike : ∃ (f : Addr) (fd : FuncData), L2.FunD K "_law_alike" "_law_alike" (defArgs s__law_alike) (defBody s__law_alike) (defScope s__law_alike) [] [] f fd ∧ mg "_law_alike" = some (.ref f)
  fd__law_rows_of : ∃ (f : Addr) (fd : FuncData), L2.FunD K "_law_rows_of" "_law_rows_of" (defArgs s__law_rows_of) (defBody s__law_rows_of) (defScope s__law_rows_of) [] [] f fd ∧ mg "_law_rows_of" = some (.ref f)
  fd__law_misses : ∃ (f : Addr) (fd : FuncData), L2.FunD K "_law_misses" "_law_misses" (defArgs s__law_misses) (defBody s__law_misses) (defScope s__law_misses) [] [] f fd ∧ mg "_law_misses" = some (.ref f)
  fd__law_groups : ∃ (f : Addr) (fd : FuncData), L2.FunD K "_law_groups" "_law_groups" (defArgs s__law_groups) (defBody s__law_groups) (defScope s__law_groups) [] [] f fd ∧ mg "_law_groups" = some (.ref f)
  fd_classes_of : ∃ (f : Addr) (fd : FuncData), L2.FunD K "classes_of" "classes_of" (defArgs s_classes_of) (defBody s_classes_of) (defScope s_classes_of) [] [] f fd ∧ mg "classes_of" = some (.ref f)
  fd_many_from : ∃ (f : Addr) (fd : FuncData), L2.FunD K "many_from" "many_from" (defArgs s_many_from) (defBody s_many_from) (defScope s_many_from) [] [] f fd ∧ mg "many_from" = some (.ref f)
  fd_many_of_kind : ∃ (f : Addr) (fd : FuncData), L2.FunD K "many_of_kind" "many_of_kind" (defArgs s_many_of_kind) (defBody s_many_of_kind) (defScope s_many_of_kind) [] [] f fd ∧ mg "many_of_kind" = some (.ref f)
  fd__law_some : ∃ (f : Addr) (fd : FuncData), L2.FunD K "_law_some" "_law_some" (defArgs s__law_some) (defBody s__law_some) (defScope s__law_some) [] [] f fd ∧ mg "_law_some" = some (.ref f)
  fd__law_told : ∃ (f : Addr) (fd : FuncData), L2.FunD K "_law_told" "_law_told" (defArgs s__law_told) (defBody s__law_told) (defScope s__law_told) [] [] f fd ∧ mg "_law_told" = some (.ref f)
  fd__law_wholes : ∃ (f : Addr) (fd : FuncData), L2.FunD K "_law_wholes" "_law_wholes" (defArgs s__law_wholes) (defBody s__law_wholes) (defScope s__law_wholes) [] [] f fd ∧ mg "_law_wholes" = some (.ref f)
  fd__law_states : ∃ (f : Addr) (fd : FuncData), L2.FunD K "_law_states" "_law_states" (defArgs s__law_states) (defBody s__law_states) (defScope s__law_states) [] [] f fd ∧ mg "_law_states" = some (.ref f)
  fd__law_reading : ∃ (f : Addr) (fd : FuncData), L2.FunD K "_law_reading" "_law_reading" (defArgs s__law_reading) (defBody s__law_reading) (defScope s__law_reading) [] [] f fd ∧ mg "_law_reading" = some (.ref f)
  fd_columns_by : ∃ (f : Addr) (fd : FuncData), L2.FunD K "columns_by" "columns_by" (defArgs s_columns_by) (defBody s_columns_by) (defScope s_columns_by) [] [] f fd ∧ mg "columns_by" = some (.ref f)
  fd__law_a_kind : ∃ (f : Addr) (fd : FuncData), L2.FunD K "_law_a_kind" "_law_a_kind" (defArgs s__law_a_kind) (defBody s__law_a_kind) (defScope s__law_a_kind) [] [] f fd ∧ mg "_law_a_kind" = some (.ref f)
  fd__law_counted : ∃ (f : Addr) (fd : FuncData), L2.FunD K "_law_counted" "_law_counted" (defArgs s__law_counted) (defBody s__law_counted) (defScope s__law_counted) [] [] f fd ∧ mg "_law_counted" = some (.ref f)
  fd__law_on : ∃ (f : Addr) (fd : FuncData), L2.FunD K "_law_on" "_law_on" (defArgs s__law_on) (defBody s__law_on) (defScope s__law_on) [] [] f fd ∧ mg "_law_on" = some (.ref f)
  fd_rows_behind : ∃ (f : Addr) (fd : FuncData), L2.FunD K "rows_behind" "rows_behind" (defArgs s_rows_behind) (defBody s_rows_behind) (defScope s_rows_behind) [] [] f fd ∧ mg "rows_behind" = some (.ref f)
  fd__law_book : ∃ (f : Addr) (fd : FuncData), L2.FunD K "_law_book" "_law_book" (defArgs s__law_book) (defBody s__law_book) (defScope s__law_book) [] [] f fd ∧ mg "_law_book" = some (.ref f)
  fd__law_turned : ∃ (f : Addr) (fd : FuncData), L2.FunD K "_law_turned" "_law_turned" (defArgs s__law_turned) (defBody s__law_turned) (defScope s__law_turned) [] [] f fd ∧ mg "_law_turned" = some (.ref f)
  fd_tally_from : ∃ (f : Addr) (fd : FuncData), L2.FunD K "tally_from" "tally_from" (defArgs s_tally_from) (defBody s_tally_from) (defScope s_tally_from) [] [] f fd ∧ mg "tally_from" = some (.ref f)
  fd_tally : ∃ (f : Addr) (fd : FuncData), L2.FunD K "tally" "tally" (defArgs s_tally) (defBody s_tally) (defScope s_tally) [] [] f fd ∧ mg "tally" = some (.ref f)
  fd_many_telling : ∃ (f : Addr) (fd : FuncData), L2.FunD K "many_telling" "many_telling" (defArgs s_many_telling) (defBody s_many_telling) (defScope s_many_telling) [] [] f fd ∧ mg "many_telling" = some (.ref f)
  fd_many_fitting : ∃ (f : Addr) (fd : FuncData), L2.FunD K "many_fitting" "many_fitting" (defArgs s_many_fitting) (defBody s_many_fitting) (defScope s_many_fitting) [] [] f fd ∧ mg "many_fitting" = some (.ref f)
  fd_many_sure : ∃ (f : Addr) (fd : FuncData), L2.FunD K "many_sure" "many_sure" (defArgs s_many_sure) (defBody s_many_sure) (defScope s_many_sure) [] [] f fd ∧ mg "many_sure" = some (.ref f)
  fd_many_sure_of_group : ∃ (f : Addr) (fd : FuncData), L2.FunD K "many_sure_of_group" "many_sure_of_group" (defArgs s_many_sure_of_group) (defBody s_many_sure_of_group) (defScope s_many_sure_of_group) [] [] f fd ∧ mg "many_sure_of_group" = some (.ref f)
  fd_kinds_in_all : ∃ (f : Addr) (fd : FuncData), L2.FunD K "kinds_in_all" "kinds_in_all" (defArgs s_kinds_in_all) (defBody s_kinds_in_all) (defScope s_kinds_in_all) [] [] f fd ∧ mg "kinds_in_all" = some (.ref f)
  fd_never_told : ∃ (f : Addr) (fd : FuncData), L2.FunD K "never_told" "never_told" (defArgs s_never_told) (defBody s_never_told) (defScope s_never_told) [] [] f fd ∧ mg "never_told" = some (.ref f)
  fd_many_strange : ∃ (f : Addr) (fd : FuncData), L2.FunD K "many_strange" "many_strange" (defArgs s_many_strange) (defBody s_many_strange) (defScope s_many_strange) [] [] f fd ∧ mg "many_strange" = some (.ref f)
  fd_law : ∃ (f : Addr) (fd : FuncData), L2.FunD K "law" "law" (defArgs s_law) (defBody s_law) (defScope s_law) [] [] f fd ∧ mg "law" = some (.ref f)
variable {P : Program} {w : World} {K : PySem.W.Frag} {mg : Str → Option Value} {base : Heap}
theorem sc_nothing_read : FnScope ["book"] ["book"] (defScope s_nothing_read) := ⟨rfl, rfl, rfl, by decide +kernel, rfl, by decide +kernel, by decide +kernel⟩
theorem ok_nothing_read (S : Fx K mg base) : DefOk P w K mg base 1 "nothing_read" 1 F_nothing_read := by
  obtain ⟨tk_UNREAD_plain, hc_UNREAD_plain⟩ := S.c_UNREAD_plain
  obtain ⟨f, fd, FD, hm⟩ := S.fd_nothing_read
  exact okMD (ps := ["book"]) FD sc_nothing_read hm (fun _ _ _ _ _ _ us hl => match us, hl with | [_], _ => rfl) fun cdv A outer s H E c => dss_w (dss_one (ds_ret 1 (d_mul (d_tup (da_cons (d_glob (v := .int (-1)) hc_UNREAD_plain ⟨_, rfl⟩ fun _ => .int _) da_nil)) (d_len (d_ix (d_var 0) d_int) S.fr_len)))) (by decide)
theorem sc_showers : FnScope ["book", "trait", "state", "at", "kind"] ["book", "trait", "state"] (defScope s_showers) := ⟨rfl, rfl, rfl, by decide +kernel, rfl, by decide +kernel, by decide +kernel⟩
theorem ok_showers (S : Fx K mg base) : DefOk P w K mg base 1 "showers" 3 F_showers := by
  obtain ⟨tk_KINDS, hc_KINDS⟩ := S.c_KINDS
  obtain ⟨tk_SHOWS, hc_SHOWS⟩ := S.c_SHOWS
  obtain ⟨f, fd, FD, hm⟩ := S.fd_showers
  exact okMD (ps := ["book", "trait", "state"]) FD sc_showers hm (fun _ _ _ _ _ _ us hl => match us, hl with | [_, _, _], _ => rfl) fun cdv A outer s H E c => dss_w (dss_one (ds_ret 3 (d_tuple (d_lc (own := [("at", 3), ("kind", 4)]) c (di_enum (d_ix (d_var 0) (d_glob (v := .int (3)) hc_KINDS ⟨_, rfl⟩ fun _ => .int _)) S.fr_enumerate) (blkOk_by (by rfl)) (fun _ _ _ _ _ => (dg_w (dg_tup (c.blk _ _ _ _ _) (dgs_cons (dg_name 3 (c.blk _ _ _ _ _)) (dgs_cons (dg_name 4 (c.blk _ _ _ _ _)) dgs_nil))) (by decide))) (fun _ _ _ _ _ => (dts_one (dt_in (d_var 2) (d_ix (d_ix (d_var 4) (d_glob (v := .int (2)) hc_SHOWS ⟨_, rfl⟩ fun _ => .int _)) (d_var 1))))) (fun _ _ _ _ _ => (d_var 3))) S.fr_tuple))) (by decide)
theorem sc_traits_of : FnScope ["book"] ["book"] (defScope s_traits_of) := ⟨rfl, rfl, rfl, by decide +kernel, rfl, by decide +kernel, by decide +kernel⟩
theorem ok_traits_of (S : Fx K mg base) : DefOk P w K mg base 1 "traits_of" 1 F_traits_of := by
  obtain ⟨tk_TRAITS, hc_TRAITS⟩ := S.c_TRAITS
  obtain ⟨f, fd, FD, hm⟩ := S.fd_traits_of
  exact okMD (ps := ["book"]) FD sc_traits_of hm (fun _ _ _ _ _ _ us hl => match us, hl with | [_], _ => rfl) fun cdv A outer s H E c => dss_w (dss_one (ds_ret 1 (d_listRg c (d_len (d_ix (d_var 0) (d_glob (v := .int (2)) hc_TRAITS ⟨_, rfl⟩ fun _ => .int _)) S.fr_len) S.fr_list S.fr_range))) (by decide)
theorem sc_columns_from : FnScope ["book", "reading", "found", "state", "name", "most", "price"] ["book", "reading"] (defScope s_columns_from) := ⟨rfl, rfl, rfl, by decide +kernel, rfl, by decide +kernel, by decide +kernel⟩
theorem ok_columns_from (S : Fx K mg base) : DefOk P w K mg base 1 "columns_from" 2 F_columns_from := by
  obtain ⟨tk_TRAITS, hc_TRAITS⟩ := S.c_TRAITS
  obtain ⟨tk_UNREAD_readings, hc_UNREAD_readings⟩ := S.c_UNREAD_readings
  obtain ⟨f, fd, FD, hm⟩ := S.fd_columns_from
  exact okMD (ps := ["book", "reading"]) FD sc_columns_from hm (fun _ _ _ _ _ _ us hl => match us, hl with | [_, _], _ => rfl) fun cdv A outer s H E c => dss_w (dss_cons (ds_set 2 c (d_lst da_nil)) (dss_cons (ds_for PassesOwn.never c.calm (di_zip (d_ix (d_var 0) (d_glob (v := .int (2)) hc_TRAITS ⟨_, rfl⟩ fun _ => .int _)) (d_var 1) S.fr_zip) (dg_tup c (dgs_cons (dg_tup c (dgs_cons (dg_name 4 c) (dgs_cons (dg_name 5 c) (dgs_cons (dg_name 6 c) dgs_nil)))) (dgs_cons (dg_name 3 c) dgs_nil))) (dss_one (ds_expr (d_app 2 (d_var 2) (d_if (dt_eq c (d_var 3) (d_glob (v := .int (-1)) hc_UNREAD_readings ⟨_, rfl⟩ fun _ => .int _)) (d_listRg c (d_add (d_var 5) d_int) S.fr_list S.fr_range) (d_lst (da_cons (d_var 3) da_nil))))))) (dss_one (ds_ret 2 (d_var 2))))) (by decide)
theorem sc_missed : FnScope ["book", "row", "trait", "state", "found", "many", "kind"] ["book", "row", "trait", "state"] (defScope s_missed) := ⟨rfl, rfl, rfl, by decide +kernel, rfl, by decide +kernel, by decide +kernel⟩
theorem ok_missed (S : Fx K mg base) : DefOk P w K mg base 1 "missed" 4 F_missed := by
  obtain ⟨tk_KINDS, hc_KINDS⟩ := S.c_KINDS
  obtain ⟨tk_SHOWS, hc_SHOWS⟩ := S.c_SHOWS
  obtain ⟨tk_ERRORS, hc_ERRORS⟩ := S.c_ERRORS
  obtain ⟨f, fd, FD, hm⟩ := S.fd_missed
  exact okMD (ps := ["book", "row", "trait", "state"]) FD sc_missed hm (fun _ _ _ _ _ _ us hl => match us, hl with | [_, _, _, _], _ => rfl) fun cdv A outer s H E c => dss_w (dss_cons (ds_set 4 c (d_lst da_nil)) (dss_cons (ds_for PassesOwn.never c.calm (di_zip (d_var 1) (d_ix (d_var 0) (d_glob (v := .int (3)) hc_KINDS ⟨_, rfl⟩ fun _ => .int _)) S.fr_zip) (dg_tup c (dgs_cons (dg_name 5 c) (dgs_cons (dg_name 6 c) dgs_nil))) (dss_one (ds_expr (d_app 4 (d_var 4) (d_if (dt_in (d_var 3) (d_ix (d_ix (d_var 6) (d_glob (v := .int (2)) hc_SHOWS ⟨_, rfl⟩ fun _ => .int _)) (d_var 2))) (d_var 5) (d_min2 c (d_add (d_var 5) d_int) (d_add (d_ix (d_var 0) (d_glob (v := .int (1)) hc_ERRORS ⟨_, rfl⟩ fun _ => .int _)) d_int) S.fr_min)))))) (dss_one (ds_ret 4 (d_tuple (d_var 4) S.fr_tuple))))) (by decide)
theorem sc_lot_of_row : FnScope ["book", "row", "kind", "many"] ["book", "row"] (defScope s_lot_of_row) := ⟨rfl, rfl, rfl, by decide +kernel, rfl, by decide +kernel, by decide +kernel⟩
theorem ok_lot_of_row (S : Fx K mg base) : DefOk P w K mg base 1 "lot_of_row" 2 F_lot_of_row := by
  obtain ⟨tk_ERRORS, hc_ERRORS⟩ := S.c_ERRORS
  obtain ⟨f, fd, FD, hm⟩ := S.fd_lot_of_row
  exact okMD (ps := ["book", "row"]) FD sc_lot_of_row hm (fun _ _ _ _ _ _ us hl => match us, hl with | [_, _], _ => rfl) fun cdv A outer s H E c => dss_w (dss_one (ds_ret 2 (d_tuple (d_lc (own := [("kind", 2), ("many", 3)]) c (di_enum (d_var 1) S.fr_enumerate) (blkOk_by (by rfl)) (fun _ _ _ _ _ => (dg_w (dg_tup (c.blk _ _ _ _ _) (dgs_cons (dg_name 2 (c.blk _ _ _ _ _)) (dgs_cons (dg_name 3 (c.blk _ _ _ _ _)) dgs_nil))) (by decide))) (fun _ _ _ _ _ => (dts_one (dt_le (d_var 3) (d_ix (d_var 0) (d_glob (v := .int (1)) hc_ERRORS ⟨_, rfl⟩ fun _ => .int _))))) (fun _ _ _ _ _ => (d_var 2))) S.fr_tuple))) (by decide)
theorem sc_ways_for : FnScope ["book", "kind", "misses", "found", "states", "longer", "name", "most", "price", "hits", "rest", "many", "ahead"] ["book", "kind", "misses"] (defScope s_ways_for) := ⟨rfl, rfl, rfl, by decide +kernel, rfl, by decide +kernel, by decide +kernel⟩
theorem ok_ways_for (S : Fx K mg base) : DefOk P w K mg base 1 "ways_for" 3 F_ways_for := by
  obtain ⟨tk_TRAITS, hc_TRAITS⟩ := S.c_TRAITS
  obtain ⟨tk_KINDS, hc_KINDS⟩ := S.c_KINDS
  obtain ⟨tk_SHOWS, hc_SHOWS⟩ := S.c_SHOWS
  obtain ⟨f, fd, FD, hm⟩ := S.fd_ways_for
  exact okMD (ps := ["book", "kind", "misses"]) FD sc_ways_for hm (fun _ _ _ _ _ _ us hl => match us, hl with | [_, _, _], _ => rfl) fun cdv A outer s H E c => dss_w (dss_cons (ds_set 3 c (d_lst (da_cons d_int da_nil))) (dss_cons (ds_for PassesOwn.never c.calm (di_zip (d_ix (d_var 0) (d_glob (v := .int (2)) hc_TRAITS ⟨_, rfl⟩ fun _ => .int _)) (d_ix (d_ix (d_ix (d_var 0) (d_glob (v := .int (3)) hc_KINDS ⟨_, rfl⟩ fun _ => .int _)) (d_var 1)) (d_glob (v := .int (2)) hc_SHOWS ⟨_, rfl⟩ fun _ => .int _)) S.fr_zip) (dg_tup c (dgs_cons (dg_tup c (dgs_cons (dg_name 6 c) (dgs_cons (dg_name 7 c) (dgs_cons (dg_name 8 c) dgs_nil)))) (dgs_cons (dg_name 4 c) dgs_nil))) (dss_cons (ds_asg (d_tup (da_cons (d_len (d_var 4) S.fr_len) (da_cons (d_sub (d_add (d_var 7) d_int) (d_len (d_var 4) S.fr_len)) da_nil))) (dg_tup c (dgs_cons (dg_name 9 c) (dgs_cons (dg_name 10 c) dgs_nil)))) (dss_cons (ds_set 5 c (d_add (d_lc (own := [("many", 11)]) c (di_seq (d_var 3)) (blkOk_by (by rfl)) (fun _ _ _ _ _ => (dg_w (dg_name 11 (c.blk _ _ _ _ _)) (by decide))) (fun _ _ _ _ _ => dts_nil) (fun _ _ _ _ _ => (d_mul (d_var 11) (d_var 9)))) (d_lst (da_cons d_int da_nil)))) (dss_one (ds_setLc 3 (own := [("many", 11), ("ahead", 12)]) c (di_zip (d_var 5) (d_lst (da_cons d_int (da_star (d_var 3) da_nil))) S.fr_zip) (blkOk_by (by rfl)) (fun _ _ _ _ _ => (dg_w (dg_tup (c.blk _ _ _ _ _) (dgs_cons (dg_name 11 (c.blk _ _ _ _ _)) (dgs_cons (dg_name 12 (c.blk _ _ _ _ _)) dgs_nil))) (by decide))) (fun _ _ _ _ _ => dts_nil) (fun _ _ _ _ _ => (d_add (d_var 11) (d_mul (d_var 12) (d_var 10)))) (by rfl) (sw_true rfl rfl rfl (by decide +kernel))))))) (dss_one (ds_ret 3 (d_if (dt_lt (d_var 2) (d_len (d_var 3) S.fr_len)) (d_ix (d_var 3) (d_var 2)) d_int))))) (by decide)
theorem sc__law_bag : FnScope ["script", "cell"] ["script"] (defScope s__law_bag) := ⟨rfl, rfl, rfl, by decide +kernel, rfl, by decide +kernel, by decide +kernel⟩
theorem ok__law_bag (S : Fx K mg base) : DefOk P w K mg base 1 "_law_bag" 1 F__law_bag := by
  obtain ⟨f, fd, FD, hm⟩ := S.fd__law_bag
  exact okMD (ps := ["script"]) FD sc__law_bag hm (fun _ _ _ _ _ _ us hl => match us, hl with | [_], _ => rfl) fun cdv A outer s H E c => dss_w (dss_one (ds_ret 1 (d_lst (da_cons d_int (da_cons d_int (da_cons d_int (da_cons (d_lc (own := [("cell", 1)]) c (di_seq (d_sl (d_var 0) do_none (do_some d_int))) (blkOk_by (by rfl)) (fun _ _ _ _ _ => (dg_w (dg_name 1 (c.blk _ _ _ _ _)) (by decide))) (fun _ _ _ _ _ => dts_nil) (fun _ _ _ _ _ => (d_abs (d_var 1) S.fr_abs))) da_nil))))))) (by decide)
theorem sc__law_take : FnScope ["bag", "many", "cell", "stirred", "value", "begin", "second"] ["bag", "many"] (defScope s__law_take) := ⟨rfl, rfl, rfl, by decide +kernel, rfl, by decide +kernel, by decide +kernel⟩
theorem ok__law_take (S : Fx K mg base) : DefOk P w K mg base 1 "_law_take" 2 F__law_take := by
  obtain ⟨f, fd, FD, hm⟩ := S.fd__law_take
  exact okMD (ps := ["bag", "many"]) FD sc__law_take hm (fun _ _ _ _ _ _ us hl => match us, hl with | [_, _], _ => rfl) fun cdv A outer s H E c => dss_w (dss_cons (ds_if (dt_eq c (d_ix (d_var 0) d_int) d_int) (dss_cons (ds_set 2 c (d_ix (d_add (d_sl (d_ix (d_var 0) d_int) (do_some (d_ix (d_var 0) d_int)) do_none) (d_lst (da_cons d_int da_nil))) d_int)) (dss_cons (ds_augIx 0 ip_add (d_var 0) d_int d_int) (dss_cons (ds_if (dt_ge (d_var 2) (d_pow d_int d_int)) (dss_one (ds_setIx 0 (d_var 2) (d_var 0) d_int)) dss_nil) (dss_cons (ds_set 3 c (d_add (d_add (d_mul (d_ix (d_var 0) d_int) d_int) (d_mod (d_intc (d_var 2) S.fr_int) d_int)) (d_mul d_int (d_ix (d_var 0) d_int)))) (dss_one (ds_setIx 0 (d_mod (d_intc (d_var 3) S.fr_int) d_int) (d_var 0) d_int)))))) dss_nil) (dss_cons (ds_if (dt_gt (d_ix (d_var 0) d_int) d_int) (dss_cons (ds_set 4 c (d_mod (d_intc (d_ix (d_var 0) d_int) S.fr_int) (d_var 1))) (dss_cons (ds_setIx 0 (d_fdiv (d_intc (d_ix (d_var 0) d_int) S.fr_int) (d_var 1)) (d_var 0) d_int) (dss_one (ds_ret 2 (d_var 4))))) dss_nil) (dss_cons (ds_set 5 c (d_mod (d_intc (d_mul (d_add (d_ix (d_var 0) d_int) d_int) d_int) S.fr_int) d_int)) (dss_cons (ds_set 6 c (d_mod (d_intc (d_mul (d_mod (d_intc (d_mul (d_var 5) (d_var 5)) S.fr_int) d_int) d_int) S.fr_int) d_int)) (dss_one (ds_ret 2 (d_mod (d_intc (d_fdiv (d_var 6) d_int) S.fr_int) (d_var 1)))))))) (by decide)
theorem sc__law_alike : FnScope ["found", "due", "pairs", "at", "one", "other"] ["found", "due"] (defScope s__law_alike) := ⟨rfl, rfl, rfl, by decide +kernel, rfl, by decide +kernel, by decide +kernel⟩
theorem ok__law_alike (S : Fx K mg base) : DefOk P w K mg base 1 "_law_alike" 2 F__law_alike := by
  obtain ⟨f, fd, FD, hm⟩ := S.fd__law_alike
  exact okMD (ps := ["found", "due"]) FD sc__law_alike hm (fun _ _ _ _ _ _ us hl => match us, hl with | [_, _], _ => rfl) fun cdv A outer s H E c => dss_w (dss_cons (ds_par 2 3 c (dr_cons (d_lst (da_cons (d_tup (da_cons (d_var 0) (da_cons (d_var 1) da_nil))) da_nil)) (dr_cons d_int dr_nil))) (dss_cons (ds_while fuel PassesOwn.never (dt_lt (d_var 3) (d_len (d_var 2) S.fr_len)) (dss_cons (ds_asg (d_ix (d_var 2) (d_var 3)) (dg_tup c (dgs_cons (dg_name 4 c) (dgs_cons (dg_name 5 c) dgs_nil)))) (dss_cons (ds_aug 3 ip_add c d_int) (dss_cons (ds_if (PW.pt (dw_or (dt_ne c (d_isi .bool (d_var 4) S.fr_isinstance S.fr_bool) (d_isi .bool (d_var 5) S.fr_isinstance S.fr_bool)) (dw_or1 (dt_ne c (d_isi .str (d_var 4) S.fr_isinstance S.fr_str) (d_isi .str (d_var 5) S.fr_isinstance S.fr_str))))) (dss_one (ds_ret 2 d_bl)) dss_nil) (dss_cons (ds_if (dt_ne c (d_isi2 .tup .lst (d_var 4) S.fr_isinstance S.fr_tuple S.fr_list) (d_isi2 .tup .lst (d_var 5) S.fr_isinstance S.fr_tuple S.fr_list)) (dss_one (ds_ret 2 d_bl)) dss_nil) (dss_one (ds_if (dt_tru (d_isi2 .tup .lst (d_var 4) S.fr_isinstance S.fr_tuple S.fr_list)) (dss_cons (ds_if (PW.pt (dw_or (dt_ne c (d_isi .tup (d_var 4) S.fr_isinstance S.fr_tuple) (d_isi .tup (d_var 5) S.fr_isinstance S.fr_tuple)) (dw_or1 (dt_ne c (d_len (d_var 4) S.fr_len) (d_len (d_var 5) S.fr_len))))) (dss_one (ds_ret 2 d_bl)) dss_nil) (dss_one (ds_expr (d_ext 2 (d_var 2) (d_listZip c (d_var 4) (d_var 5) S.fr_list S.fr_zip))))) (dss_one (ds_if (dt_ne c (d_var 4) (d_var 5)) (dss_one (ds_ret 2 d_bl)) dss_nil))))))))) (dss_one (ds_ret 2 d_bl)))) (by decide)
theorem sc__law_rows_of : FnScope ["columns", "found", "some", "longer", "row", "one"] ["columns"] (defScope s__law_rows_of) := ⟨rfl, rfl, rfl, by decide +kernel, rfl, by decide +kernel, by decide +kernel⟩
theorem ok__law_rows_of (S : Fx K mg base) : DefOk P w K mg base 1 "_law_rows_of" 1 F__law_rows_of := by
  obtain ⟨f, fd, FD, hm⟩ := S.fd__law_rows_of
  exact okMD (ps := ["columns"]) FD sc__law_rows_of hm (fun _ _ _ _ _ _ us hl => match us, hl with | [_], _ => rfl) fun cdv A outer s H E c => dss_w (dss_cons (ds_set 1 c (d_lst (da_cons (d_tup da_nil) da_nil))) (dss_cons (ds_for PassesOwn.never c.calm (di_seq (d_var 0)) (dg_name 2 c) (dss_cons (ds_set 3 c (d_lst da_nil)) (dss_cons (ds_for PassesOwn.never c.calm (di_seq (d_var 1)) (dg_name 4 c) (dss_one (ds_set 3 c (d_add (d_var 3) (d_lc (own := [("one", 5)]) c (di_seq (d_var 2)) (blkOk_by (by rfl)) (fun _ _ _ _ _ => (dg_w (dg_name 5 (c.blk _ _ _ _ _)) (by decide))) (fun _ _ _ _ _ => dts_nil) (fun _ _ _ _ _ => (d_add (d_var 4) (d_tup (da_cons (d_var 5) da_nil))))))))) (dss_one (ds_set 1 c (d_var 3)))))) (dss_one (ds_ret 1 (d_var 1))))) (by decide)
theorem sc__law_misses : FnScope ["book", "kind", "reading", "at", "state"] ["book", "kind", "reading"] (defScope s__law_misses) := ⟨rfl, rfl, rfl, by decide +kernel, rfl, by decide +kernel, by decide +kernel⟩
theorem ok__law_misses (S : Fx K mg base) : DefOk P w K mg base 1 "_law_misses" 3 F__law_misses := by
  obtain ⟨f, fd, FD, hm⟩ := S.fd__law_misses
  exact okMD (ps := ["book", "kind", "reading"]) FD sc__law_misses hm (fun _ _ _ _ _ _ us hl => match us, hl with | [_, _, _], _ => rfl) fun cdv A outer s H E c => dss_w (dss_one (ds_ret 3 (d_tuple (d_lc (own := [("at", 3), ("state", 4)]) c (di_enum (d_var 2) S.fr_enumerate) (blkOk_by (by rfl)) (fun _ _ _ _ _ => (dg_w (dg_tup (c.blk _ _ _ _ _) (dgs_cons (dg_name 3 (c.blk _ _ _ _ _)) (dgs_cons (dg_name 4 (c.blk _ _ _ _ _)) dgs_nil))) (by decide))) (fun _ _ _ _ _ => (dts_one (PW.pt (dw_and (dt_ge (d_var 4) d_int) (dw_and1 (dt_nin (d_var 4) (d_ix (d_ix (d_ix (d_ix (d_var 0) d_int) (d_var 1)) d_int) (d_var 3)))))))) (fun _ _ _ _ _ => (d_var 3))) S.fr_tuple))) (by decide)
theorem sc__law_groups : FnScope ["book", "lot", "kind"] ["book", "lot"] (defScope s__law_groups) := ⟨rfl, rfl, rfl, by decide +kernel, rfl, by decide +kernel, by decide +kernel⟩
theorem ok__law_groups (S : Fx K mg base) : DefOk P w K mg base 1 "_law_groups" 2 F__law_groups := by
  obtain ⟨f, fd, FD, hm⟩ := S.fd__law_groups
  exact okMD (ps := ["book", "lot"]) FD sc__law_groups hm (fun _ _ _ _ _ _ us hl => match us, hl with | [_, _], _ => rfl) fun cdv A outer s H E c => dss_w (dss_one (ds_ret 2 (d_sortSet c (d_lc (own := [("kind", 2)]) c (di_seq (d_var 1)) (blkOk_by (by rfl)) (fun _ _ _ _ _ => (dg_w (dg_name 2 (c.blk _ _ _ _ _)) (by decide))) (fun _ _ _ _ _ => dts_nil) (fun _ _ _ _ _ => (d_ix (d_ix (d_ix (d_var 0) d_int) (d_var 2)) d_int))) S.fr_sorted S.fr_set))) (by decide)
theorem sc_classes_of : FnScope ["book", "trait", "found", "state", "some"] ["book", "trait"] (defScope s_classes_of) := ⟨rfl, rfl, rfl, by decide +kernel, rfl, by decide +kernel, by decide +kernel⟩
theorem ok_classes_of (S : Fx K mg base) : DefOk P w K mg base 2 "classes_of" 2 F_classes_of := by
  obtain ⟨tk_TRAITS, hc_TRAITS⟩ := S.c_TRAITS
  obtain ⟨tk_MOST, hc_MOST⟩ := S.c_MOST
  obtain ⟨f, fd, FD, hm⟩ := S.fd_classes_of
  exact okMD (ps := ["book", "trait"]) FD sc_classes_of hm (fun _ _ _ _ _ _ us hl => match us, hl with | [_, _], _ => rfl) fun cdv A outer s H E c => dss_w (dss_cons (ds_set 2 c d_dictL) (dss_cons (ds_for PassesOwn.never c.calm (di_range1 (d_add (d_ix (d_ix (d_ix (d_var 0) (d_glob (v := .int (2)) hc_TRAITS ⟨_, rfl⟩ fun _ => .int _)) (d_var 1)) (d_glob (v := .int (1)) hc_MOST ⟨_, rfl⟩ fun _ => .int _)) d_int) S.fr_range) (dg_name 3 c) (dss_one (ds_expr (d_sdApp 2 3 c (d_var 2) (d_callD (ok_showers S) c (by omega) (dr_cons (d_var 0) (dr_cons (d_var 1) (dr_cons (d_var 3) dr_nil)))) (d_tv 3))))) (dss_one (ds_ret 2 (d_tuple (d_lc (own := [("some", 4)]) c (di_valuesL 2 (d_var 2)) (blkOk_by (by rfl)) (fun _ _ _ _ _ => (dg_w (dg_name 4 (c.blk _ _ _ _ _)) (by decide))) (fun _ _ _ _ _ => dts_nil) (fun _ _ _ _ _ => (d_tuple (d_var 4) S.fr_tuple))) S.fr_tuple))))) (by decide)
theorem sc_many_from : FnScope ["book", "reading", "many", "some"] ["book", "reading"] (defScope s_many_from) := ⟨rfl, rfl, rfl, by decide +kernel, rfl, by decide +kernel, by decide +kernel⟩
theorem ok_many_from (S : Fx K mg base) : DefOk P w K mg base 2 "many_from" 2 F_many_from := by
  obtain ⟨f, fd, FD, hm⟩ := S.fd_many_from
  exact okMD (ps := ["book", "reading"]) FD sc_many_from hm (fun _ _ _ _ _ _ us hl => match us, hl with | [_, _], _ => rfl) fun cdv A outer s H E c => dss_w (dss_cons (ds_set 2 c d_int) (dss_cons (ds_for PassesOwn.never c.calm (di_seq (d_callD (ok_columns_from S) c (by omega) (dr_cons (d_var 0) (dr_cons (d_var 1) dr_nil)))) (dg_name 3 c) (dss_one (ds_augM 2 c (d_len (d_var 3) S.fr_len)))) (dss_one (ds_ret 2 (d_var 2))))) (by decide)
theorem sc_many_of_kind : FnScope ["book", "kind", "misses"] ["book", "kind"] (defScope s_many_of_kind) := ⟨rfl, rfl, rfl, by decide +kernel, rfl, by decide +kernel, by decide +kernel⟩
theorem ok_many_of_kind (S : Fx K mg base) : DefOk P w K mg base 2 "many_of_kind" 2 F_many_of_kind := by
  obtain ⟨tk_ERRORS, hc_ERRORS⟩ := S.c_ERRORS
  obtain ⟨f, fd, FD, hm⟩ := S.fd_many_of_kind
  exact okMD (ps := ["book", "kind"]) FD sc_many_of_kind hm (fun _ _ _ _ _ _ us hl => match us, hl with | [_, _], _ => rfl) fun cdv A outer s H E c => dss_w (dss_one (ds_ret 2 (d_sum c (d_lc (own := [("misses", 2)]) c (di_range1 (d_add (d_ix (d_var 0) (d_glob (v := .int (1)) hc_ERRORS ⟨_, rfl⟩ fun _ => .int _)) d_int) S.fr_range) (blkOk_by (by rfl)) (fun _ _ _ _ _ => (dg_w (dg_name 2 (c.blk _ _ _ _ _)) (by decide))) (fun _ _ _ _ _ => dts_nil) (fun _ _ _ _ _ => (d_callD (ok_ways_for S) (c.blk _ _ _ _ _) (by omega) (dr_cons (d_var 0) (dr_cons (d_var 1) (dr_cons (d_var 2) dr_nil)))))) S.fr_sum))) (by decide)
theorem sc__law_some : FnScope ["bag", "things"] ["bag", "things"] (defScope s__law_some) := ⟨rfl, rfl, rfl, by decide +kernel, rfl, by decide +kernel, by decide +kernel⟩
theorem ok__law_some (S : Fx K mg base) : DefOk P w K mg base 2 "_law_some" 2 F__law_some := by
  obtain ⟨f, fd, FD, hm⟩ := S.fd__law_some
  exact okMD (ps := ["bag", "things"]) FD sc__law_some hm (fun _ _ _ _ _ _ us hl => match us, hl with | [_, _], _ => rfl) fun cdv A outer s H E c => dss_w (dss_one (ds_ret 2 (d_ix (d_var 1) (d_callD (ok__law_take S) c (by omega) (dr_cons (d_var 0) (dr_cons (d_len (d_var 1) S.fr_len) dr_nil)))))) (by decide)
theorem sc__law_told : FnScope ["book", "reading", "kind"] ["book", "reading"] (defScope s__law_told) := ⟨rfl, rfl, rfl, by decide +kernel, rfl, by decide +kernel, by decide +kernel⟩
theorem ok__law_told (S : Fx K mg base) : DefOk P w K mg base 2 "_law_told" 2 F__law_told := by
  obtain ⟨f, fd, FD, hm⟩ := S.fd__law_told
  exact okMD (ps := ["book", "reading"]) FD sc__law_told hm (fun _ _ _ _ _ _ us hl => match us, hl with | [_, _], _ => rfl) fun cdv A outer s H E c => dss_w (dss_one (ds_ret 2 (d_tuple (d_lc (own := [("kind", 2)]) c (di_range1 (d_len (d_ix (d_var 0) d_int) S.fr_len) S.fr_range) (blkOk_by (by rfl)) (fun _ _ _ _ _ => (dg_w (dg_name 2 (c.blk _ _ _ _ _)) (by decide))) (fun _ _ _ _ _ => (dts_one (dt_le (d_len (d_callD (ok__law_misses S) (c.blk _ _ _ _ _) (by omega) (dr_cons (d_var 0) (dr_cons (d_var 2) (dr_cons (d_var 1) dr_nil)))) S.fr_len) (d_ix (d_var 0) d_int)))) (fun _ _ _ _ _ => (d_var 2))) S.fr_tuple))) (by decide)
theorem sc__law_wholes : FnScope ["book", "name", "most", "price"] ["book"] (defScope s__law_wholes) := ⟨rfl, rfl, rfl, by decide +kernel, rfl, by decide +kernel, by decide +kernel⟩
theorem ok__law_wholes (S : Fx K mg base) : DefOk P w K mg base 2 "_law_wholes" 1 F__law_wholes := by
  obtain ⟨f, fd, FD, hm⟩ := S.fd__law_wholes
  exact okMD (ps := ["book"]) FD sc__law_wholes hm (fun _ _ _ _ _ _ us hl => match us, hl with | [_], _ => rfl) fun cdv A outer s H E c => dss_w (dss_one (ds_ret 1 (d_callD (ok__law_rows_of S) c (by omega) (dr_cons (d_lc (own := [("name", 1), ("most", 2), ("price", 3)]) c (di_seq (d_ix (d_var 0) d_int)) (blkOk_by (by rfl)) (fun _ _ _ _ _ => (dg_w (dg_tup (c.blk _ _ _ _ _) (dgs_cons (dg_name 1 (c.blk _ _ _ _ _)) (dgs_cons (dg_name 2 (c.blk _ _ _ _ _)) (dgs_cons (dg_name 3 (c.blk _ _ _ _ _)) dgs_nil)))) (by decide))) (fun _ _ _ _ _ => dts_nil) (fun _ _ _ _ _ => (d_listRg (c.blk _ _ _ _ _) (d_add (d_var 2) d_int) S.fr_list S.fr_range))) dr_nil)))) (by decide)
theorem sc__law_states : FnScope ["bag", "most", "some", "state"] ["bag", "most"] (defScope s__law_states) := ⟨rfl, rfl, rfl, by decide +kernel, rfl, by decide +kernel, by decide +kernel⟩
theorem ok__law_states (S : Fx K mg base) : DefOk P w K mg base 2 "_law_states" 2 F__law_states := by
  obtain ⟨f, fd, FD, hm⟩ := S.fd__law_states
  exact okMD (ps := ["bag", "most"]) FD sc__law_states hm (fun _ _ _ _ _ _ us hl => match us, hl with | [_, _], _ => rfl) fun cdv A outer s H E c => dss_w (dss_cons (ds_setLc 2 (own := [("state", 3)]) c (di_range1 (d_add (d_var 1) d_int) S.fr_range) (blkOk_by (by rfl)) (fun _ _ _ _ _ => (dg_w (dg_name 3 (c.blk _ _ _ _ _)) (by decide))) (fun _ _ _ _ _ => (dts_one (dt_eq (c.blk _ _ _ _ _) (d_callD (ok__law_take S) (c.blk _ _ _ _ _) (by omega) (dr_cons (d_var 0) (dr_cons d_int dr_nil))) d_int))) (fun _ _ _ _ _ => (d_var 3)) (by rfl) (sw_true rfl rfl rfl (by decide +kernel))) (dss_one (ds_ret 2 (d_if (dt_ne c (d_var 2) (d_lst da_nil)) (d_tuple (d_var 2) S.fr_tuple) (d_tup (da_cons (d_callD (ok__law_take S) c (by omega) (dr_cons (d_var 0) (dr_cons (d_add (d_var 1) d_int) dr_nil))) da_nil)))))) (by decide)
theorem sc__law_reading : FnScope ["bag", "book", "name", "most", "price"] ["bag", "book"] (defScope s__law_reading) := ⟨rfl, rfl, rfl, by decide +kernel, rfl, by decide +kernel, by decide +kernel⟩
theorem ok__law_reading (S : Fx K mg base) : DefOk P w K mg base 2 "_law_reading" 2 F__law_reading := by
  obtain ⟨f, fd, FD, hm⟩ := S.fd__law_reading
  exact okMD (ps := ["bag", "book"]) FD sc__law_reading hm (fun _ _ _ _ _ _ us hl => match us, hl with | [_, _], _ => rfl) fun cdv A outer s H E c => dss_w (dss_one (ds_ret 2 (d_tuple (d_lc (own := [("name", 2), ("most", 3), ("price", 4)]) c (di_seq (d_ix (d_var 1) d_int)) (blkOk_by (by rfl)) (fun _ _ _ _ _ => (dg_w (dg_tup (c.blk _ _ _ _ _) (dgs_cons (dg_name 2 (c.blk _ _ _ _ _)) (dgs_cons (dg_name 3 (c.blk _ _ _ _ _)) (dgs_cons (dg_name 4 (c.blk _ _ _ _ _)) dgs_nil)))) (by decide))) (fun _ _ _ _ _ => dts_nil) (fun _ _ _ _ _ => (d_sub (d_callD (ok__law_take S) (c.blk _ _ _ _ _) (by omega) (dr_cons (d_var 0) (dr_cons (d_add (d_var 3) d_int) dr_nil))) d_int))) S.fr_tuple))) (by decide)
theorem sc_columns_by : FnScope ["book", "trait", "state", "some"] ["book", "trait", "state"] (defScope s_columns_by) := ⟨rfl, rfl, rfl, by decide +kernel, rfl, by decide +kernel, by decide +kernel⟩
theorem ok_columns_by (S : Fx K mg base) : DefOk P w K mg base 3 "columns_by" 3 F_columns_by := by
  obtain ⟨tk_UNREAD_readings, hc_UNREAD_readings⟩ := S.c_UNREAD_readings
  obtain ⟨f, fd, FD, hm⟩ := S.fd_columns_by
  exact okMD (ps := ["book", "trait", "state"]) FD sc_columns_by hm (fun _ _ _ _ _ _ us hl => match us, hl with | [_, _, _], _ => rfl) fun cdv A outer s H E c => dss_w (dss_cons (ds_if (dt_ne c (d_var 2) (d_glob (v := .int (-1)) hc_UNREAD_readings ⟨_, rfl⟩ fun _ => .int _)) (dss_one (ds_ret 3 (d_lst (da_cons (d_tup (da_cons (d_var 2) (da_cons d_int da_nil))) da_nil)))) dss_nil) (dss_one (ds_ret 3 (d_lc (own := [("some", 3)]) c (di_seq (d_callD (ok_classes_of S) c (by omega) (dr_cons (d_var 0) (dr_cons (d_var 1) dr_nil)))) (blkOk_by (by rfl)) (fun _ _ _ _ _ => (dg_w (dg_name 3 (c.blk _ _ _ _ _)) (by decide))) (fun _ _ _ _ _ => dts_nil) (fun _ _ _ _ _ => (d_tup (da_cons (d_ix (d_var 3) d_int) (da_cons (d_len (d_var 3) S.fr_len) da_nil)))))))) (by decide)
theorem sc__law_a_kind : FnScope ["bag", "name", "traits", "trait", "most", "price"] ["bag", "name", "traits"] (defScope s__law_a_kind) := ⟨rfl, rfl, rfl, by decide +kernel, rfl, by decide +kernel, by decide +kernel⟩
theorem ok__law_a_kind (S : Fx K mg base) : DefOk P w K mg base 3 "_law_a_kind" 3 F__law_a_kind := by
  obtain ⟨f, fd, FD, hm⟩ := S.fd__law_a_kind
  exact okMD (ps := ["bag", "name", "traits"]) FD sc__law_a_kind hm (fun _ _ _ _ _ _ us hl => match us, hl with | [_, _, _], _ => rfl) fun cdv A outer s H E c => dss_w (dss_one (ds_ret 3 (d_tup (da_cons (d_var 1) (da_cons (d_callD (ok__law_some S) c (by omega) (dr_cons (d_var 0) (dr_cons (d_lst (da_cons d_str (da_cons d_str da_nil))) dr_nil))) (da_cons (d_tuple (d_lc (own := [("trait", 3), ("most", 4), ("price", 5)]) c (di_seq (d_var 2)) (blkOk_by (by rfl)) (fun _ _ _ _ _ => (dg_w (dg_tup (c.blk _ _ _ _ _) (dgs_cons (dg_name 3 (c.blk _ _ _ _ _)) (dgs_cons (dg_name 4 (c.blk _ _ _ _ _)) (dgs_cons (dg_name 5 (c.blk _ _ _ _ _)) dgs_nil)))) (by decide))) (fun _ _ _ _ _ => dts_nil) (fun _ _ _ _ _ => (d_callD (ok__law_states S) (c.blk _ _ _ _ _) (by omega) (dr_cons (d_var 0) (dr_cons (d_var 4) dr_nil))))) S.fr_tuple) da_nil)))))) (by decide)
theorem sc__law_counted : FnScope ["book", "rows", "found", "row", "lot"] ["book", "rows"] (defScope s__law_counted) := ⟨rfl, rfl, rfl, by decide +kernel, rfl, by decide +kernel, by decide +kernel⟩
theorem ok__law_counted (S : Fx K mg base) : DefOk P w K mg base 3 "_law_counted" 2 F__law_counted := by
  obtain ⟨f, fd, FD, hm⟩ := S.fd__law_counted
  exact okMD (ps := ["book", "rows"]) FD sc__law_counted hm (fun _ _ _ _ _ _ us hl => match us, hl with | [_, _], _ => rfl) fun cdv A outer s H E c => dss_w (dss_cons (ds_set 2 c d_dictT) (dss_cons (ds_for PassesOwn.never c.calm (di_seq (d_var 1)) (dg_name 3 c) (dss_cons (ds_set 4 c (d_callD (ok__law_told S) c (by omega) (dr_cons (d_var 0) (dr_cons (d_var 3) dr_nil)))) (dss_one (ds_putT 2 c (d_add (d_getT 2 c (d_var 2) (d_var 4) d_int) d_int) (d_var 2) (d_var 4))))) (dss_one (ds_ret 2 (d_tuple (d_sortI c (d_var 2) S.fr_sorted) S.fr_tuple))))) (by decide)
theorem sc__law_on : FnScope ["book", "reading", "row", "state", "its"] ["book", "reading"] (defScope s__law_on) := ⟨rfl, rfl, rfl, by decide +kernel, rfl, by decide +kernel, by decide +kernel⟩
theorem ok__law_on (S : Fx K mg base) : DefOk P w K mg base 3 "_law_on" 2 F__law_on := by
  obtain ⟨f, fd, FD, hm⟩ := S.fd__law_on
  exact okMD (ps := ["book", "reading"]) FD sc__law_on hm (fun _ _ _ _ _ _ us hl => match us, hl with | [_, _], _ => rfl) fun cdv A outer s H E c => dss_w (dss_one (ds_ret 2 (d_lc (own := [("row", 2)]) c (di_seq (d_callD (ok__law_wholes S) c (by omega) (dr_cons (d_var 0) dr_nil))) (blkOk_by (by rfl)) (fun _ _ _ _ _ => (dg_w (dg_name 2 (c.blk _ _ _ _ _)) (by decide))) (fun _ _ _ _ _ => (dts_one (dt_eq (c.blk _ _ _ _ _) (d_lc (own := [("state", 3), ("its", 4)]) (c.blk _ _ _ _ _) (di_zip (d_var 1) (d_var 2) S.fr_zip) (blkOk_by (by rfl)) (fun _ _ _ _ _ => (dg_w (dg_tup ((c.blk _ _ _ _ _).blk _ _ _ _ _) (dgs_cons (dg_name 3 ((c.blk _ _ _ _ _).blk _ _ _ _ _)) (dgs_cons (dg_name 4 ((c.blk _ _ _ _ _).blk _ _ _ _ _)) dgs_nil))) (by decide))) (fun _ _ _ _ _ => (dts_one (dt_nin (d_var 3) (d_tup (da_cons (d_neg d_int) (da_cons (d_var 4) da_nil)))))) (fun _ _ _ _ _ => d_int)) (d_lst da_nil)))) (fun _ _ _ _ _ => (d_var 2))))) (by decide)
theorem sc_rows_behind : FnScope ["book", "rows", "trait", "state", "found", "row", "many", "one", "size", "later"] ["book", "rows", "trait", "state"] (defScope s_rows_behind) := ⟨rfl, rfl, rfl, by decide +kernel, rfl, by decide +kernel, by decide +kernel⟩
theorem ok_rows_behind (S : Fx K mg base) : DefOk P w K mg base 4 "rows_behind" 4 F_rows_behind := by
  obtain ⟨tk_MOST_ROWS, hc_MOST_ROWS⟩ := S.c_MOST_ROWS
  obtain ⟨f, fd, FD, hm⟩ := S.fd_rows_behind
  exact okMD (ps := ["book", "rows", "trait", "state"]) FD sc_rows_behind hm (fun _ _ _ _ _ _ us hl => match us, hl with | [_, _, _, _], _ => rfl) fun cdv A outer s H E c => dss_w (dss_cons (ds_set 4 c d_dictT) (dss_cons (ds_for PassesOwn.never c.calm (di_itemsT 1 (d_var 1)) (dg_tup c (dgs_cons (dg_name 5 c) (dgs_cons (dg_name 6 c) dgs_nil))) (dss_one (ds_for PassesOwn.never c.calm (di_seq (d_callD (ok_columns_by S) c (by omega) (dr_cons (d_var 0) (dr_cons (d_var 2) (dr_cons (d_var 3) dr_nil))))) (dg_tup c (dgs_cons (dg_name 7 c) (dgs_cons (dg_name 8 c) dgs_nil))) (dss_cons (ds_set 9 c (d_callD (ok_missed S) c (by omega) (dr_cons (d_var 0) (dr_cons (d_var 5) (dr_cons (d_var 2) (dr_cons (d_var 7) dr_nil)))))) (dss_one (ds_putT 4 c (d_add (d_getT 4 c (d_var 4) (d_var 9) d_int) (d_mul (d_var 6) (d_var 8))) (d_var 4) (d_var 9))))))) (dss_cons (ds_if (dt_gt (d_lenD (d_var 4) S.fr_len) (d_glob (v := .int (5000)) hc_MOST_ROWS ⟨_, rfl⟩ fun _ => .int _)) (dss_one ds_never) dss_nil) (dss_one (ds_ret 4 (d_var 4)))))) (by decide)
theorem sc__law_book : FnScope ["bag", "names", "traits", "name", "kinds"] ["bag"] (defScope s__law_book) := ⟨rfl, rfl, rfl, by decide +kernel, rfl, by decide +kernel, by decide +kernel⟩
theorem ok__law_book (S : Fx K mg base) : DefOk P w K mg base 4 "_law_book" 1 F__law_book := by
  obtain ⟨f, fd, FD, hm⟩ := S.fd__law_book
  exact okMD (ps := ["bag"]) FD sc__law_book hm (fun _ _ _ _ _ _ us hl => match us, hl with | [_], _ => rfl) fun cdv A outer s H E c => dss_w (dss_cons (ds_set 1 c (d_sl (d_lst (da_cons d_str (da_cons d_str (da_cons d_str (da_cons d_str da_nil))))) do_none (do_some (d_add d_int (d_callD (ok__law_take S) c (by omega) (dr_cons (d_var 0) (dr_cons d_int dr_nil))))))) (dss_cons (ds_set 2 c (d_tuple (d_lc (own := [("name", 3)]) c (di_seq (d_var 1)) (blkOk_by (by rfl)) (fun _ _ _ _ _ => (dg_w (dg_name 3 (c.blk _ _ _ _ _)) (by decide))) (fun _ _ _ _ _ => dts_nil) (fun _ _ _ _ _ => (d_tup (da_cons (d_var 3) (da_cons (d_add d_int (d_callD (ok__law_take S) (c.blk _ _ _ _ _) (by omega) (dr_cons (d_var 0) (dr_cons d_int dr_nil)))) (da_cons (d_add d_int (d_callD (ok__law_take S) (c.blk _ _ _ _ _) (by omega) (dr_cons (d_var 0) (dr_cons d_int dr_nil)))) da_nil)))))) S.fr_tuple)) (dss_cons (ds_set 4 c (d_tuple (d_lc (own := [("name", 3)]) c (di_seq (d_sl (d_lst (da_cons d_str (da_cons d_str (da_cons d_str (da_cons d_str (da_cons d_str da_nil)))))) do_none (do_some (d_add d_int (d_callD (ok__law_take S) c (by omega) (dr_cons (d_var 0) (dr_cons d_int dr_nil))))))) (blkOk_by (by rfl)) (fun _ _ _ _ _ => (dg_w (dg_name 3 (c.blk _ _ _ _ _)) (by decide))) (fun _ _ _ _ _ => dts_nil) (fun _ _ _ _ _ => (d_callD (ok__law_a_kind S) (c.blk _ _ _ _ _) (by omega) (dr_cons (d_var 0) (dr_cons (d_var 3) (dr_cons (d_var 2) dr_nil)))))) S.fr_tuple)) (dss_one (ds_ret 1 (d_tup (da_cons d_str (da_cons (d_callD (ok__law_some S) c (by omega) (dr_cons (d_var 0) (dr_cons (d_lst (da_cons d_int (da_cons d_int (da_cons d_int (da_cons d_int (da_cons d_int da_nil)))))) dr_nil))) (da_cons (d_var 2) (da_cons (d_var 4) da_nil)))))))))) (by decide)
theorem sc__law_turned : FnScope ["bag", "book", "name", "errors", "traits", "kinds", "way", "at", "trait", "own", "group", "shows", "price", "fresh", "one", "kind", "more"] ["bag", "book"] (defScope s__law_turned) := ⟨rfl, rfl, rfl, by decide +kernel, rfl, by decide +kernel, by decide +kernel⟩
theorem ok__law_turned (S : Fx K mg base) : DefOk P w K mg base 4 "_law_turned" 2 F__law_turned := by
  obtain ⟨f, fd, FD, hm⟩ := S.fd__law_turned
  exact okMD (ps := ["bag", "book"]) FD sc__law_turned hm (fun _ _ _ _ _ _ us hl => match us, hl with | [_, _], _ => rfl) fun cdv A outer s H E c => dss_w (dss_cons (ds_asg (d_var 1) (dg_tup c (dgs_cons (dg_name 2 c) (dgs_cons (dg_name 3 c) (dgs_cons (dg_name 4 c) (dgs_cons (dg_name 5 c) dgs_nil)))))) (dss_cons (ds_par3 6 7 8 c (dr_cons (d_callD (ok__law_take S) c (by omega) (dr_cons (d_var 0) (dr_cons d_int dr_nil))) (dr_cons (d_callD (ok__law_take S) c (by omega) (dr_cons (d_var 0) (dr_cons (d_len (d_var 5) S.fr_len) dr_nil))) (dr_cons (d_callD (ok__law_take S) c (by omega) (dr_cons (d_var 0) (dr_cons (d_len (d_var 4) S.fr_len) dr_nil))) dr_nil)))) (dss_cons (ds_asg (d_ix (d_var 5) (d_var 7)) (dg_tup c (dgs_cons (dg_name 9 c) (dgs_cons (dg_name 10 c) (dgs_cons (dg_name 11 c) dgs_nil))))) (dss_cons (ds_if (dt_eq c (d_var 6) d_int) (dss_one (ds_ret 2 (d_tup (da_cons (d_var 2) (da_cons (d_callD (ok__law_take S) c (by omega) (dr_cons (d_var 0) (dr_cons d_int dr_nil))) (da_cons (d_var 4) (da_cons (d_var 5) da_nil))))))) dss_nil) (dss_cons (ds_if (dt_eq c (d_var 6) d_int) (dss_cons (ds_set 12 c (d_add (d_sl (d_ix (d_var 4) (d_var 8)) do_none (do_some d_int)) (d_tup (da_cons (d_add d_int (d_callD (ok__law_take S) c (by omega) (dr_cons (d_var 0) (dr_cons d_int dr_nil)))) da_nil)))) (dss_one (ds_ret 2 (d_tup (da_cons (d_var 2) (da_cons (d_var 3) (da_cons (d_add (d_add (d_sl (d_var 4) do_none (do_some (d_var 8))) (d_tup (da_cons (d_var 12) da_nil))) (d_sl (d_var 4) (do_some (d_add (d_var 8) d_int)) do_none)) (da_cons (d_var 5) da_nil)))))))) dss_nil) (dss_cons (ds_if (PW.pt (dw_and (dt_eq c (d_var 6) d_int) (dw_and1 (dt_lt (d_len (d_var 5) S.fr_len) d_int)))) (dss_cons (ds_setLc 13 (own := [("one", 14)]) c (di_seq (d_lst (da_cons d_str (da_cons d_str (da_cons d_str (da_cons d_str (da_cons d_str (da_cons d_str (da_cons d_str da_nil))))))))) (blkOk_by (by rfl)) (fun _ _ _ _ _ => (dg_w (dg_name 14 (c.blk _ _ _ _ _)) (by decide))) (fun _ _ _ _ _ => (dts_one (dt_nin (d_var 14) (d_lc (own := [("kind", 15)]) (c.blk _ _ _ _ _) (di_seq (d_var 5)) (blkOk_by (by rfl)) (fun _ _ _ _ _ => (dg_w (dg_name 15 ((c.blk _ _ _ _ _).blk _ _ _ _ _)) (by decide))) (fun _ _ _ _ _ => dts_nil) (fun _ _ _ _ _ => (d_ix (d_var 15) d_int)))))) (fun _ _ _ _ _ => (d_var 14)) (by rfl) (sw_true rfl rfl rfl (by decide +kernel))) (dss_one (ds_ret 2 (d_tup (da_cons (d_var 2) (da_cons (d_var 3) (da_cons (d_var 4) (da_cons (d_add (d_add (d_sl (d_var 5) do_none (do_some (d_var 7))) (d_tup (da_cons (d_callD (ok__law_a_kind S) c (by omega) (dr_cons (d_var 0) (dr_cons (d_ix (d_var 13) d_int) (dr_cons (d_var 4) dr_nil)))) da_nil))) (d_sl (d_var 5) (do_some (d_var 7)) do_none)) da_nil)))))))) dss_nil) (dss_cons (ds_if (PW.pt (dw_and (dt_eq c (d_var 6) d_int) (dw_and1 (dt_gt (d_len (d_var 5) S.fr_len) d_int)))) (dss_one (ds_ret 2 (d_tup (da_cons (d_var 2) (da_cons (d_var 3) (da_cons (d_var 4) (da_cons (d_add (d_sl (d_var 5) do_none (do_some (d_var 7))) (d_sl (d_var 5) (do_some (d_add (d_var 7) d_int)) do_none)) da_nil))))))) dss_nil) (dss_cons (ds_if (dt_eq c (d_var 6) d_int) (dss_one (ds_ret 2 (d_tup (da_cons (d_var 2) (da_cons (d_var 3) (da_cons (d_var 4) (da_cons (d_add (d_add (d_sl (d_var 5) do_none (do_some (d_var 7))) (d_tup (da_cons (d_tup (da_cons (d_var 9) (da_cons (d_callD (ok__law_some S) c (by omega) (dr_cons (d_var 0) (dr_cons (d_lst (da_cons d_str (da_cons d_str da_nil))) dr_nil))) (da_cons (d_var 11) da_nil)))) da_nil))) (d_sl (d_var 5) (do_some (d_add (d_var 7) d_int)) do_none)) da_nil))))))) dss_nil) (dss_cons (ds_set 16 c (d_add (d_add (d_sl (d_var 11) do_none (do_some (d_var 8))) (d_tup (da_cons (d_callD (ok__law_states S) c (by omega) (dr_cons (d_var 0) (dr_cons (d_ix (d_ix (d_var 4) (d_var 8)) d_int) dr_nil))) da_nil))) (d_sl (d_var 11) (do_some (d_add (d_var 8) d_int)) do_none))) (dss_one (ds_ret 2 (d_tup (da_cons (d_var 2) (da_cons (d_var 3) (da_cons (d_var 4) (da_cons (d_add (d_add (d_sl (d_var 5) do_none (do_some (d_var 7))) (d_tup (da_cons (d_tup (da_cons (d_var 9) (da_cons (d_var 10) (da_cons (d_var 16) da_nil)))) da_nil))) (d_sl (d_var 5) (do_some (d_add (d_var 7) d_int)) do_none)) da_nil)))))))))))))))) (by decide)
theorem sc_tally_from : FnScope ["book", "reading", "rows", "found", "kind", "trait", "row", "many", "lot"] ["book", "reading"] (defScope s_tally_from) := ⟨rfl, rfl, rfl, by decide +kernel, rfl, by decide +kernel, by decide +kernel⟩
theorem ok_tally_from (S : Fx K mg base) : DefOk P w K mg base 5 "tally_from" 2 F_tally_from := by
  obtain ⟨tk_KINDS, hc_KINDS⟩ := S.c_KINDS
  obtain ⟨f, fd, FD, hm⟩ := S.fd_tally_from
  exact okMD (ps := ["book", "reading"]) FD sc_tally_from hm (fun _ _ _ _ _ _ us hl => match us, hl with | [_, _], _ => rfl) fun cdv A outer s H E c => dss_w (dss_cons (ds_par 2 3 c (dr_cons (d_disT c (d_tuple (d_lc (own := [("kind", 4)]) c (di_seq (d_ix (d_var 0) (d_glob (v := .int (3)) hc_KINDS ⟨_, rfl⟩ fun _ => .int _))) (blkOk_by (by rfl)) (fun _ _ _ _ _ => (dg_w (dg_name 4 (c.blk _ _ _ _ _)) (by decide))) (fun _ _ _ _ _ => dts_nil) (fun _ _ _ _ _ => d_int)) S.fr_tuple) d_int) (dr_cons d_dictT dr_nil))) (dss_cons (ds_for PassesOwn.never c.calm (di_seq (d_callD (ok_traits_of S) c (by omega) (dr_cons (d_var 0) dr_nil))) (dg_name 5 c) (dss_one (ds_set 2 c (d_callD (ok_rows_behind S) c (by omega) (dr_cons (d_var 0) (dr_cons (d_var 2) (dr_cons (d_var 5) (dr_cons (d_ix (d_var 1) (d_var 5)) dr_nil)))))))) (dss_cons (ds_for PassesOwn.never c.calm (di_itemsT 2 (d_var 2)) (dg_tup c (dgs_cons (dg_name 6 c) (dgs_cons (dg_name 7 c) dgs_nil))) (dss_cons (ds_set 8 c (d_callD (ok_lot_of_row S) c (by omega) (dr_cons (d_var 0) (dr_cons (d_var 6) dr_nil)))) (dss_one (ds_putT 3 c (d_add (d_getT 3 c (d_var 3) (d_var 8) d_int) (d_var 7)) (d_var 3) (d_var 8))))) (dss_one (ds_ret 2 (d_tuple (d_sortI c (d_var 3) S.fr_sorted) S.fr_tuple)))))) (by decide)
theorem ok_tally_from_z (S : Fx K mg base) : DefOk P w K mg base 5 "tally_from" 2 F_tally_from_z := by
  obtain ⟨tk_KINDS, hc_KINDS⟩ := S.c_KINDS
  obtain ⟨f, fd, FD, hm⟩ := S.fd_tally_from
  exact okMD (ps := ["book", "reading"]) FD sc_tally_from hm (fun _ _ _ _ _ _ us hl => match us, hl with | [_, _], _ => rfl) fun cdv A outer s H E c => dss_w (dss_cons (ds_par 2 3 c (dr_cons (d_disT c (d_tuple (d_lc (own := [("kind", 4)]) c (di_seq (d_ix (d_var 0) (d_glob (v := .int (3)) hc_KINDS ⟨_, rfl⟩ fun _ => .int _))) (blkOk_by (by rfl)) (fun _ _ _ _ _ => (dg_w (dg_name 4 (c.blk _ _ _ _ _)) (by decide))) (fun _ _ _ _ _ => dts_nil) (fun _ _ _ _ _ => d_int)) S.fr_tuple) d_int) (dr_cons d_dictT dr_nil))) (dss_cons (ds_for PassesOwn.never c.calm (di_seq (d_callD (ok_traits_of S) c (by omega) (dr_cons (d_var 0) dr_nil))) (dg_name 5 c) (dss_one (ds_set 2 c (d_callD (ok_rows_behind S) c (by omega) (dr_cons (d_var 0) (dr_cons (d_var 2) (dr_cons (d_var 5) (dr_cons (d_ix (d_var 1) (d_var 5)) dr_nil)))))))) (dss_cons (ds_for PassesOwn.never c.calm (di_itemsT 2 (d_var 2)) (dg_tup c (dgs_cons (dg_name 6 c) (dgs_cons (dg_name 7 c) dgs_nil))) (dss_cons (ds_set 8 c (d_callD (ok_lot_of_row S) c (by omega) (dr_cons (d_var 0) (dr_cons (d_var 6) dr_nil)))) (dss_one (ds_putT 3 c (d_add (d_getT 3 c (d_var 3) (d_var 8) d_int) (d_var 7)) (d_var 3) (d_var 8))))) (dss_one (ds_ret 2 (d_tupZ (d_sortI c (d_var 3) S.fr_sorted) S.fr_tuple)))))) (by decide)
theorem sc_tally : FnScope ["book"] ["book"] (defScope s_tally) := ⟨rfl, rfl, rfl, by decide +kernel, rfl, by decide +kernel, by decide +kernel⟩
theorem ok_tally (S : Fx K mg base) : DefOk P w K mg base 6 "tally" 1 F_tally := by
  obtain ⟨f, fd, FD, hm⟩ := S.fd_tally
  exact okMD (ps := ["book"]) FD sc_tally hm (fun _ _ _ _ _ _ us hl => match us, hl with | [_], _ => rfl) fun cdv A outer s H E c => dss_w (dss_one (ds_ret 1 (d_callD (ok_tally_from S) c (by omega) (dr_cons (d_var 0) (dr_cons (d_callD (ok_nothing_read S) c (by omega) (dr_cons (d_var 0) dr_nil)) dr_nil))))) (by decide)
theorem ok_tally_z (S : Fx K mg base) : DefOk P w K mg base 6 "tally" 1 F_tally_z := by
  obtain ⟨f, fd, FD, hm⟩ := S.fd_tally
  exact okMD (ps := ["book"]) FD sc_tally hm (fun _ _ _ _ _ _ us hl => match us, hl with | [_], _ => rfl) fun cdv A outer s H E c => dss_w (dss_one (ds_ret 1 (d_callD (ok_tally_from_z S) c (by omega) (dr_cons (d_var 0) (dr_cons (d_callD (ok_nothing_read S) c (by omega) (dr_cons (d_var 0) dr_nil)) dr_nil))))) (by decide)
theorem sc_many_telling : FnScope ["book", "lot"] ["book", "lot"] (defScope s_many_telling) := ⟨rfl, rfl, rfl, by decide +kernel, rfl, by decide +kernel, by decide +kernel⟩
theorem ok_many_telling (S : Fx K mg base) : DefOk P w K mg base 7 "many_telling" 2 F_many_telling := by
  obtain ⟨f, fd, FD, hm⟩ := S.fd_many_telling
  exact okMD (ps := ["book", "lot"]) FD sc_many_telling hm (fun _ _ _ _ _ _ us hl => match us, hl with | [_, _], _ => rfl) fun cdv A outer s H E c => dss_w (dss_one (ds_ret 2 (d_getO c (d_dictZ c (d_callD (ok_tally_z S) c (by omega) (dr_cons (d_var 0) dr_nil)) S.fr_dict) (d_var 1) d_int))) (by decide)
theorem sc_many_fitting : FnScope ["book", "lot", "its", "many", "kind"] ["book", "lot"] (defScope s_many_fitting) := ⟨rfl, rfl, rfl, by decide +kernel, rfl, by decide +kernel, by decide +kernel⟩
theorem ok_many_fitting (S : Fx K mg base) : DefOk P w K mg base 7 "many_fitting" 2 F_many_fitting := by
  obtain ⟨f, fd, FD, hm⟩ := S.fd_many_fitting
  exact okMD (ps := ["book", "lot"]) FD sc_many_fitting hm (fun _ _ _ _ _ _ us hl => match us, hl with | [_, _], _ => rfl) fun cdv A outer s H E c => dss_w (dss_one (ds_ret 2 (d_sum c (d_lc (own := [("its", 2), ("many", 3)]) c (di_seq (d_callD (ok_tally S) c (by omega) (dr_cons (d_var 0) dr_nil))) (blkOk_by (by rfl)) (fun _ _ _ _ _ => (dg_w (dg_tup (c.blk _ _ _ _ _) (dgs_cons (dg_name 2 (c.blk _ _ _ _ _)) (dgs_cons (dg_name 3 (c.blk _ _ _ _ _)) dgs_nil))) (by decide))) (fun _ _ _ _ _ => (dts_one (dt_tru (d_all (c.blk _ _ _ _ _) (d_lc (own := [("kind", 4)]) (c.blk _ _ _ _ _) (di_seq (d_var 1)) (blkOk_by (by rfl)) (fun _ _ _ _ _ => (dg_w (dg_name 4 ((c.blk _ _ _ _ _).blk _ _ _ _ _)) (by decide))) (fun _ _ _ _ _ => dts_nil) (fun _ _ _ _ _ => (d_in (d_var 4) (d_var 2)))) S.fr_all)))) (fun _ _ _ _ _ => (d_var 3))) S.fr_sum))) (by decide)
theorem sc_many_sure : FnScope ["book", "lot", "many"] ["book"] (defScope s_many_sure) := ⟨rfl, rfl, rfl, by decide +kernel, rfl, by decide +kernel, by decide +kernel⟩
theorem ok_many_sure (S : Fx K mg base) : DefOk P w K mg base 7 "many_sure" 1 F_many_sure := by
  obtain ⟨f, fd, FD, hm⟩ := S.fd_many_sure
  exact okMD (ps := ["book"]) FD sc_many_sure hm (fun _ _ _ _ _ _ us hl => match us, hl with | [_], _ => rfl) fun cdv A outer s H E c => dss_w (dss_one (ds_ret 1 (d_sum c (d_lc (own := [("lot", 1), ("many", 2)]) c (di_seq (d_callD (ok_tally S) c (by omega) (dr_cons (d_var 0) dr_nil))) (blkOk_by (by rfl)) (fun _ _ _ _ _ => (dg_w (dg_tup (c.blk _ _ _ _ _) (dgs_cons (dg_name 1 (c.blk _ _ _ _ _)) (dgs_cons (dg_name 2 (c.blk _ _ _ _ _)) dgs_nil))) (by decide))) (fun _ _ _ _ _ => (dts_one (dt_eq (c.blk _ _ _ _ _) (d_len (d_var 1) S.fr_len) d_int))) (fun _ _ _ _ _ => (d_var 2))) S.fr_sum))) (by decide)
theorem sc_many_sure_of_group : FnScope ["book", "found", "lot", "many", "groups", "kind", "group"] ["book"] (defScope s_many_sure_of_group) := ⟨rfl, rfl, rfl, by decide +kernel, rfl, by decide +kernel, by decide +kernel⟩
theorem ok_many_sure_of_group (S : Fx K mg base) : DefOk P w K mg base 7 "many_sure_of_group" 1 F_many_sure_of_group := by
  obtain ⟨tk_KINDS, hc_KINDS⟩ := S.c_KINDS
  obtain ⟨f, fd, FD, hm⟩ := S.fd_many_sure_of_group
  exact okMD (ps := ["book"]) FD sc_many_sure_of_group hm (fun _ _ _ _ _ _ us hl => match us, hl with | [_], _ => rfl) fun cdv A outer s H E c => dss_w (dss_cons (ds_set 1 c d_int) (dss_cons (ds_for PassesOwn.never c.calm (di_seq (d_callD (ok_tally S) c (by omega) (dr_cons (d_var 0) dr_nil))) (dg_tup c (dgs_cons (dg_name 2 c) (dgs_cons (dg_name 3 c) dgs_nil))) (dss_cons (ds_set 4 c (d_lc (own := [("kind", 5)]) c (di_seq (d_var 2)) (blkOk_by (by rfl)) (fun _ _ _ _ _ => (dg_w (dg_name 5 (c.blk _ _ _ _ _)) (by decide))) (fun _ _ _ _ _ => dts_nil) (fun _ _ _ _ _ => (d_ix (d_ix (d_ix (d_var 0) (d_glob (v := .int (3)) hc_KINDS ⟨_, rfl⟩ fun _ => .int _)) (d_var 5)) d_int)))) (dss_one (ds_aug 1 ip_add c (d_if (PW.pt (dw_and (dt_tru (d_var 4)) (dw_and1 (dt_tru (d_all c (d_lc (own := [("group", 6)]) c (di_seq (d_var 4)) (blkOk_by (by rfl)) (fun _ _ _ _ _ => (dg_w (dg_name 6 (c.blk _ _ _ _ _)) (by decide))) (fun _ _ _ _ _ => dts_nil) (fun _ _ _ _ _ => (d_eq (c.blk _ _ _ _ _) (d_var 6) (d_ix (d_var 4) d_int)))) S.fr_all))))) (d_var 3) d_int))))) (dss_one (ds_ret 1 (d_var 1))))) (by decide)
theorem sc_kinds_in_all : FnScope ["book", "lot", "many"] ["book"] (defScope s_kinds_in_all) := ⟨rfl, rfl, rfl, by decide +kernel, rfl, by decide +kernel, by decide +kernel⟩
theorem ok_kinds_in_all (S : Fx K mg base) : DefOk P w K mg base 7 "kinds_in_all" 1 F_kinds_in_all := by
  obtain ⟨f, fd, FD, hm⟩ := S.fd_kinds_in_all
  exact okMD (ps := ["book"]) FD sc_kinds_in_all hm (fun _ _ _ _ _ _ us hl => match us, hl with | [_], _ => rfl) fun cdv A outer s H E c => dss_w (dss_one (ds_ret 1 (d_tup (da_cons (d_sum c (d_lc (own := [("lot", 1), ("many", 2)]) c (di_seq (d_callD (ok_tally S) c (by omega) (dr_cons (d_var 0) dr_nil))) (blkOk_by (by rfl)) (fun _ _ _ _ _ => (dg_w (dg_tup (c.blk _ _ _ _ _) (dgs_cons (dg_name 1 (c.blk _ _ _ _ _)) (dgs_cons (dg_name 2 (c.blk _ _ _ _ _)) dgs_nil))) (by decide))) (fun _ _ _ _ _ => dts_nil) (fun _ _ _ _ _ => (d_mul (d_len (d_var 1) S.fr_len) (d_var 2)))) S.fr_sum) (da_cons (d_callD (ok_many_from S) c (by omega) (dr_cons (d_var 0) (dr_cons (d_callD (ok_nothing_read S) c (by omega) (dr_cons (d_var 0) dr_nil)) dr_nil))) da_nil))))) (by decide)
theorem sc_never_told : FnScope ["book", "sure", "lot", "many", "kind"] ["book"] (defScope s_never_told) := ⟨rfl, rfl, rfl, by decide +kernel, rfl, by decide +kernel, by decide +kernel⟩
theorem ok_never_told (S : Fx K mg base) : DefOk P w K mg base 7 "never_told" 1 F_never_told := by
  obtain ⟨tk_KINDS, hc_KINDS⟩ := S.c_KINDS
  obtain ⟨f, fd, FD, hm⟩ := S.fd_never_told
  exact okMD (ps := ["book"]) FD sc_never_told hm (fun _ _ _ _ _ _ us hl => match us, hl with | [_], _ => rfl) fun cdv A outer s H E c => dss_w (dss_cons (ds_set 1 c (d_dc (own := [("lot", 2), ("many", 3)]) c (di_seq (d_callD (ok_tally S) c (by omega) (dr_cons (d_var 0) dr_nil))) (blkOk_by (by rfl)) (fun _ _ _ _ _ => (dg_w (dg_tup (c.blk _ _ _ _ _) (dgs_cons (dg_name 2 (c.blk _ _ _ _ _)) (dgs_cons (dg_name 3 (c.blk _ _ _ _ _)) dgs_nil))) (by decide))) (fun _ _ _ _ _ => (dts_one (dt_eq (c.blk _ _ _ _ _) (d_len (d_var 2) S.fr_len) d_int))) (fun _ _ _ _ _ => (d_ix (d_var 2) d_int)) (fun _ _ _ _ _ => d_bl))) (dss_one (ds_ret 1 (d_tuple (d_lc (own := [("kind", 4)]) c (di_range1 (d_len (d_ix (d_var 0) (d_glob (v := .int (3)) hc_KINDS ⟨_, rfl⟩ fun _ => .int _)) S.fr_len) S.fr_range) (blkOk_by (by rfl)) (fun _ _ _ _ _ => (dg_w (dg_name 4 (c.blk _ _ _ _ _)) (by decide))) (fun _ _ _ _ _ => (dts_one (dt_ninK 1 (c.blk _ _ _ _ _) (d_var 4) (d_var 1)))) (fun _ _ _ _ _ => (d_var 4))) S.fr_tuple)))) (by decide)
theorem sc_many_strange : FnScope ["book"] ["book"] (defScope s_many_strange) := ⟨rfl, rfl, rfl, by decide +kernel, rfl, by decide +kernel, by decide +kernel⟩
theorem ok_many_strange (S : Fx K mg base) : DefOk P w K mg base 8 "many_strange" 1 F_many_strange := by
  obtain ⟨f, fd, FD, hm⟩ := S.fd_many_strange
  exact okMD (ps := ["book"]) FD sc_many_strange hm (fun _ _ _ _ _ _ us hl => match us, hl with | [_], _ => rfl) fun cdv A outer s H E c => dss_w (dss_one (ds_ret 1 (d_callD (ok_many_telling S) c (by omega) (dr_cons (d_var 0) (dr_cons (d_tup da_nil) dr_nil))))) (by decide)
theorem sc_law : FnScope ["script", "bag", "turn", "book", "rows", "lots", "sure", "grouped", "told", "due", "never", "again", "lot", "fitting", "misses", "ways", "row", "reading", "kind", "one", "at"] ["script"] (defScope s_law) := ⟨rfl, rfl, rfl, by decide +kernel, rfl, by decide +kernel, by decide +kernel⟩
theorem okF_law (S : Fx K mg base) {f : Addr} {fd : FuncData} (FD : L2.FunD K "law" "law" (defArgs s_law) (defBody s_law) (defScope s_law) [] [] f fd) : FnOk P w K mg base CX0 9 f fd ["script"] (spF K 1 F_law) :=
  okMF (ps := ["script"]) FD sc_law fun cdv A outer s H E c => dss_w (dss_cons (ds_set 1 c (d_callD (ok__law_bag S) c (by omega) (dr_cons (d_var 0) dr_nil))) (dss_cons (ds_for PassesOwn.never c.calm (di_range1 d_int S.fr_range) (dg_name 2 c) (dss_cons (ds_set 3 c (d_callD (ok__law_turned S) c (by omega) (dr_cons (d_var 1) (dr_cons (d_callD (ok__law_book S) c (by omega) (dr_cons (d_var 1) dr_nil)) dr_nil)))) (dss_cons (ds_set 4 c (d_callD (ok__law_wholes S) c (by omega) (dr_cons (d_var 3) dr_nil))) (dss_cons (ds_set 5 c (d_lc (own := [("row", 16)]) c (di_seq (d_var 4)) (blkOk_by (by rfl)) (fun _ _ _ _ _ => (dg_w (dg_name 16 (c.blk _ _ _ _ _)) (by decide))) (fun _ _ _ _ _ => dts_nil) (fun _ _ _ _ _ => (d_callD (ok__law_told S) (c.blk _ _ _ _ _) (by omega) (dr_cons (d_var 3) (dr_cons (d_var 16) dr_nil)))))) (dss_cons (ds_setLc 6 (own := [("lot", 12)]) c (di_seq (d_var 5)) (blkOk_by (by rfl)) (fun _ _ _ _ _ => (dg_w (dg_name 12 (c.blk _ _ _ _ _)) (by decide))) (fun _ _ _ _ _ => (dts_one (dt_eq (c.blk _ _ _ _ _) (d_len (d_var 12) S.fr_len) d_int))) (fun _ _ _ _ _ => (d_var 12)) (by rfl) (sw_true rfl rfl rfl (by decide +kernel))) (dss_cons (ds_setLc 7 (own := [("lot", 12)]) c (di_seq (d_var 5)) (blkOk_by (by rfl)) (fun _ _ _ _ _ => (dg_w (dg_name 12 (c.blk _ _ _ _ _)) (by decide))) (fun _ _ _ _ _ => (dts_one (dt_eq (c.blk _ _ _ _ _) (d_len (d_callD (ok__law_groups S) (c.blk _ _ _ _ _) (by omega) (dr_cons (d_var 3) (dr_cons (d_var 12) dr_nil))) S.fr_len) d_int))) (fun _ _ _ _ _ => (d_var 12)) (by rfl) (sw_true rfl rfl rfl (by decide +kernel))) (dss_cons (ds_set 8 c (d_lst (da_cons (d_callD (ok_tally S) c (by omega) (dr_cons (d_var 3) dr_nil)) (da_cons (d_callD (ok_many_strange S) c (by omega) (dr_cons (d_var 3) dr_nil)) (da_cons (d_callD (ok_many_sure S) c (by omega) (dr_cons (d_var 3) dr_nil)) (da_cons (d_callD (ok_many_sure_of_group S) c (by omega) (dr_cons (d_var 3) dr_nil)) (da_cons (d_callD (ok_kinds_in_all S) c (by omega) (dr_cons (d_var 3) dr_nil)) da_nil))))))) (dss_cons (ds_set 9 c (d_lst (da_cons (d_callD (ok__law_counted S) c (by omega) (dr_cons (d_var 3) (dr_cons (d_var 4) dr_nil))) (da_cons (d_cnt c (d_var 5) (d_tup da_nil)) (da_cons (d_len (d_var 6) S.fr_len) (da_cons (d_len (d_var 7) S.fr_len) (da_cons (d_tup (da_cons (d_sum c (d_lc (own := [("lot", 12)]) c (di_seq (d_var 5)) (blkOk_by (by rfl)) (fun _ _ _ _ _ => (dg_w (dg_name 12 (c.blk _ _ _ _ _)) (by decide))) (fun _ _ _ _ _ => dts_nil) (fun _ _ _ _ _ => (d_len (d_var 12) S.fr_len))) S.fr_sum) (da_cons (d_len (d_var 4) S.fr_len) da_nil))) da_nil))))))) (dss_cons (ds_if (dt_not (dt_tru (d_callD (ok__law_alike S) c (by omega) (dr_cons (d_var 8) (dr_cons (d_var 9) dr_nil))))) (dss_one (ds_ret 1 d_bl)) dss_nil) (dss_cons (ds_set 10 c (d_tuple (d_lc (own := [("kind", 18)]) c (di_range1 (d_len (d_ix (d_var 3) d_int) S.fr_len) S.fr_range) (blkOk_by (by rfl)) (fun _ _ _ _ _ => (dg_w (dg_name 18 (c.blk _ _ _ _ _)) (by decide))) (fun _ _ _ _ _ => (dts_one (dt_ninL (c.blk _ _ _ _ _) (d_tup (da_cons (d_var 18) da_nil)) (d_var 5)))) (fun _ _ _ _ _ => (d_var 18))) S.fr_tuple)) (dss_cons (ds_if (dt_not (dt_tru (d_callD (ok__law_alike S) c (by omega) (dr_cons (d_callD (ok_never_told S) c (by omega) (dr_cons (d_var 3) dr_nil)) (dr_cons (d_var 10) dr_nil))))) (dss_one (ds_ret 1 d_bl)) dss_nil) (dss_one (ds_for PassesOwn.never c.calm (di_range1 d_int S.fr_range) (dg_name 11 c) (dss_cons (ds_asg (d_tup (da_cons (d_callD (ok__law_reading S) c (by omega) (dr_cons (d_var 1) (dr_cons (d_var 3) dr_nil))) (da_cons (d_callD (ok__law_take S) c (by omega) (dr_cons (d_var 1) (dr_cons (d_len (d_ix (d_var 3) d_int) S.fr_len) dr_nil))) da_nil))) (dg_tup c (dgs_cons (dg_name 17 c) (dgs_cons (dg_name 18 c) dgs_nil)))) (dss_cons (ds_if (dt_not (dt_tru (d_callD (ok__law_alike S) c (by omega) (dr_cons (d_callD (ok_tally_from S) c (by omega) (dr_cons (d_var 3) (dr_cons (d_var 17) dr_nil))) (dr_cons (d_callD (ok__law_counted S) c (by omega) (dr_cons (d_var 3) (dr_cons (d_callD (ok__law_on S) c (by omega) (dr_cons (d_var 3) (dr_cons (d_var 17) dr_nil))) dr_nil))) dr_nil))))) (dss_one (ds_ret 1 d_bl)) dss_nil) (dss_cons (ds_set 12 c (d_callD (ok__law_some S) c (by omega) (dr_cons (d_var 1) (dr_cons (d_add (d_var 5) (d_lst (da_cons (d_tup da_nil) (da_cons (d_tup (da_cons (d_var 18) da_nil)) (da_cons (d_tuple (d_listRg c (d_len (d_ix (d_var 3) d_int) S.fr_len) S.fr_list S.fr_range) S.fr_tuple) da_nil))))) dr_nil)))) (dss_cons (ds_setLc 13 (own := [("one", 19)]) c (di_seq (d_var 5)) (blkOk_by (by rfl)) (fun _ _ _ _ _ => (dg_w (dg_name 19 (c.blk _ _ _ _ _)) (by decide))) (fun _ _ _ _ _ => (dts_one (dt_eq (c.blk _ _ _ _ _) (d_lc (own := [("at", 20)]) (c.blk _ _ _ _ _) (di_seq (d_var 12)) (blkOk_by (by rfl)) (fun _ _ _ _ _ => (dg_w (dg_name 20 ((c.blk _ _ _ _ _).blk _ _ _ _ _)) (by decide))) (fun _ _ _ _ _ => (dts_one (dt_nin (d_var 20) (d_var 19)))) (fun _ _ _ _ _ => (d_var 20))) (d_lst da_nil)))) (fun _ _ _ _ _ => (d_var 19)) (by rfl) (sw_true rfl rfl rfl (by decide +kernel))) (dss_cons (ds_if (dt_not (dt_tru (d_callD (ok__law_alike S) c (by omega) (dr_cons (d_lst (da_cons (d_callD (ok_many_telling S) c (by omega) (dr_cons (d_var 3) (dr_cons (d_var 12) dr_nil))) (da_cons (d_callD (ok_many_fitting S) c (by omega) (dr_cons (d_var 3) (dr_cons (d_var 12) dr_nil))) da_nil))) (dr_cons (d_lst (da_cons (d_cnt c (d_var 5) (d_var 12)) (da_cons (d_len (d_var 13) S.fr_len) da_nil))) dr_nil))))) (dss_one (ds_ret 1 d_bl)) dss_nil) (dss_cons (ds_set 14 c (d_callD (ok__law_take S) c (by omega) (dr_cons (d_var 1) (dr_cons (d_add (d_len (d_ix (d_var 3) d_int) S.fr_len) d_int) dr_nil)))) (dss_cons (ds_setLc 15 (own := [("row", 16)]) c (di_seq (d_var 4)) (blkOk_by (by rfl)) (fun _ _ _ _ _ => (dg_w (dg_name 16 (c.blk _ _ _ _ _)) (by decide))) (fun _ _ _ _ _ => (dts_one (dt_eq (c.blk _ _ _ _ _) (d_len (d_callD (ok__law_misses S) (c.blk _ _ _ _ _) (by omega) (dr_cons (d_var 3) (dr_cons (d_var 18) (dr_cons (d_var 16) dr_nil)))) S.fr_len) (d_var 14)))) (fun _ _ _ _ _ => (d_var 16)) (by rfl) (sw_true rfl rfl rfl (by decide +kernel))) (dss_one (ds_if (dt_not (dt_tru (d_callD (ok__law_alike S) c (by omega) (dr_cons (d_lst (da_cons (d_callD (ok_ways_for S) c (by omega) (dr_cons (d_var 3) (dr_cons (d_var 18) (dr_cons (d_var 14) dr_nil)))) (da_cons (d_callD (ok_many_of_kind S) c (by omega) (dr_cons (d_var 3) (dr_cons (d_var 18) dr_nil))) da_nil))) (dr_cons (d_lst (da_cons (d_len (d_var 15) S.fr_len) (da_cons (d_len (d_lc (own := [("lot", 12)]) c (di_seq (d_var 5)) (blkOk_by (by rfl)) (fun _ _ _ _ _ => (dg_w (dg_name 12 (c.blk _ _ _ _ _)) (by decide))) (fun _ _ _ _ _ => (dts_one (dt_in (d_var 18) (d_var 12)))) (fun _ _ _ _ _ => (d_var 12))) S.fr_len) da_nil))) dr_nil))))) (dss_one (ds_ret 1 d_bl)) dss_nil)))))))))))))))))))))) (dss_one (ds_ret 1 d_bl)))) (by decide)
end
end K60

set_option Elab.async false
set_option linter.all false
set_option maxRecDepth 100000
set_option maxHeartbeats 4000000
namespace K60
open PySem DL
/-! ### the bag -/
structure Bag where
  b0 : Int
  b1 : Int
  b2 : Int
  cells : List Int
def encBag (β : Bag) : Own := .lst [.int β.b0, .int β.b1, .int β.b2, .list (β.cells.map PyData.int)]
def OkBag (β : Bag) : Prop := 0 ≤ β.b0 ∧ 0 ≤ β.b2 ∧ β.cells.length ≤ 63
theorem cut_head (l : List Int) (lo : Int) : ∃ c r, cutL (l.map PyData.int) (some lo) none ++ [PyData.int 0] = PyData.int c :: r ∧ (cutL (l.map PyData.int) (some lo) none).length ≤ l.length := by
  have hl : (cutL (l.map PyData.int) (some lo) none).length ≤ l.length := by
    unfold cutL
    rw [List.length_take, List.length_drop, List.length_map]
    omega
  have hm : ∃ m : List Int, cutL (l.map PyData.int) (some lo) none = m.map PyData.int := by
    unfold cutL
    exact ⟨_, by rw [← List.map_drop, ← List.map_take]⟩
  obtain ⟨m, hm⟩ := hm
  rw [hm] at hl ⊢
  cases m with
  | nil => exact ⟨0, [], rfl, hl⟩
  | cons c r => exact ⟨c, _, rfl, hl⟩
theorem e_take {β : Bag} {n : Int} (h : OkBag β) (hn : 1 ≤ n) (hn2 : n < 1073741824) :
    ∃ v β', F__law_take [.own (encBag β), .d (.int n)] = some (.d (.int v), [.own (encBag β'), .d (.int n)]) ∧ 0 ≤ v ∧ v < n ∧ OkBag β' := by
  obtain ⟨b0, b1, b2, cells⟩ := β
  obtain ⟨h0, h2, h3⟩ := h
  simp only at h0 h2 h3
  obtain ⟨c, r, hc, hcl⟩ := cut_head cells b2
  have hlim : (63 : Nat) + 1 ≤ lim := by decide
  have hfd : fdC b0 n = true ∧ mdC b0 n = true := by constructor <;> simp [fdC, mdC] <;> omega
  have hfm : ∀ x : Int, 0 ≤ x.fmod n ∧ x.fmod n < n := fun x => ⟨Int.fmod_nonneg_of_pos x (by omega), Int.fmod_lt_of_pos x (by omega)⟩
  have hn0 : n ≠ 0 := by omega
  by_cases hb : b0 = 0
  · subst hb
    have hsz : (cutL (cells.map PyData.int) (some b2) none).length + 1 ≤ 1000000 := by omega
    have hcz : cells.length ≤ 1000000 := by omega
    by_cases hbig : 1000000000000000000 ≤ c
    · have h1 : 0 < c := by omega
      have hfd2 : fdC c n = true ∧ mdC c n = true := by constructor <;> simp [fdC, mdC] <;> omega
      refine ⟨c.fmod n, ⟨c.fdiv n, (b1 * 48271 + c.fmod 2147483647 + 7919 * (b2 + 1)).fmod 2147483647, b2 + 1, cells⟩, ?_, (hfm c).1, (hfm c).2, ⟨?_, ?_, h3⟩⟩
      · refine ev_runx [.own (encBag ⟨c.fdiv n, (b1 * 48271 + c.fmod 2147483647 + 7919 * (b2 + 1)).fmod 2147483647, b2 + 1, cells⟩), .d (.int n), .d (.int c), .d (.int (b1 * 48271 + c.fmod 2147483647 + 7919 * (b2 + 1))), .d (.int (c.fmod n)), .no, .no] ?_
        simp [encBag, hfd2, hsz, hcz, hc, hbig, h1, mulC, mdC, pwC, hn0]
      · exact Int.fdiv_nonneg (by omega) (by omega)
      · show 0 ≤ b2 + 1
        omega
    · let b1' := (b1 * 48271 + c.fmod 2147483647 + 7919 * (b2 + 1)).fmod 2147483647
      let bg := ((b1' + 1) * 39373).fmod 1000000007
      let sc := ((bg * bg).fmod 998244353 * 30011).fmod 998244353
      have hbg : ∀ x : Int, -18446744073709551616 < x.fmod 1000000007 ∧ x.fmod 1000000007 < 18446744073709551616 := fun x => by
        have h1 := Int.fmod_nonneg_of_pos x (show (0 : Int) < 1000000007 by decide)
        have h2 := Int.fmod_lt_of_pos x (show (0 : Int) < 1000000007 by decide)
        omega
      refine ⟨(sc.fdiv 7).fmod n, ⟨0, b1', b2 + 1, cells⟩, ?_, (hfm _).1, (hfm _).2, ⟨Int.le_refl 0, ?_, h3⟩⟩
      · refine ev_runx [.own (encBag ⟨0, b1', b2 + 1, cells⟩), .d (.int n), .d (.int c), .d (.int (b1 * 48271 + c.fmod 2147483647 + 7919 * (b2 + 1))), .no, .d (.int bg), .d (.int sc)] ?_
        simp [encBag, hsz, hcz, hc, hbig, mulC, mdC, pwC, fdC, hn0, hbg]
        try simp [b1', bg, sc]
      · show 0 ≤ b2 + 1
        omega
  · have hb' : 0 < b0 := by omega
    refine ⟨b0.fmod n, ⟨b0.fdiv n, b1, b2, cells⟩, ?_, (hfm b0).1, (hfm b0).2, ⟨?_, h2, h3⟩⟩
    · refine ev_runx [.own (encBag ⟨b0.fdiv n, b1, b2, cells⟩), .d (.int n), .no, .no, .d (.int (b0.fmod n)), .no, .no] ?_
      simp [encBag, hb, hb', hfd]
    · exact Int.fdiv_nonneg h0 (by omega)
end K60


set_option Elab.async false
set_option linter.all false
set_option maxRecDepth 100000
set_option maxHeartbeats 4000000
namespace K60
open PySem DL
theorem at_of {l : List Dat} {v : Int} (h0 : 0 ≤ v) (h1 : v < l.length) : ∃ x ∈ l, L2.atI l v = some x := by
  have hv : v.toNat < l.length := by omega
  have q := atI_nat (l := l) (i := v.toNat) (z := l[v.toNat]) (by simp [hv])
  rw [Int.toNat_of_nonneg h0] at q
  exact ⟨_, List.getElem_mem hv, q⟩
theorem e_some_own {β : Bag} {l : List Dat} (h : OkBag β) (hl : l ≠ []) (hz : l.length ≤ 1000000) :
    ∃ x β', x ∈ l ∧ OkBag β' ∧ F__law_some [.own (encBag β), .own (.lst l)] = some (.d x, [.own (encBag β'), .own (.lst l)]) := by
  have hp : 0 < l.length := List.length_pos_iff.mpr hl
  obtain ⟨v, β', e, h0, h1, hb⟩ := e_take (n := l.length) h (by omega) (by omega)
  obtain ⟨x, hx, ha⟩ := at_of h0 h1
  refine ⟨x, β', hx, hb, ?_⟩
  refine ev_runx [.own (encBag β'), .own (.lst l)] ?_
  simp [ev_Call, e, ha]
theorem e_some_l {β : Bag} {l : List Dat} (h : OkBag β) (hl : l ≠ []) (hz : l.length ≤ 1000000) :
    ∃ x β', x ∈ l ∧ OkBag β' ∧ F__law_some [.own (encBag β), .d (.list l)] = some (.d x, [.own (encBag β'), .d (.list l)]) := by
  have hp : 0 < l.length := List.length_pos_iff.mpr hl
  obtain ⟨v, β', e, h0, h1, hb⟩ := e_take (n := l.length) h (by omega) (by omega)
  obtain ⟨x, hx, ha⟩ := at_of h0 h1
  refine ⟨x, β', hx, hb, ?_⟩
  refine ev_runx [.own (encBag β'), .d (.list l)] ?_
  simp [ev_Call, e, ha]
theorem e_some_t {β : Bag} {l : List Dat} (h : OkBag β) (hl : l ≠ []) (hz : l.length ≤ 1000000) :
    ∃ x β', x ∈ l ∧ OkBag β' ∧ F__law_some [.own (encBag β), .d (.tuple l)] = some (.d x, [.own (encBag β'), .d (.tuple l)]) := by
  have hp : 0 < l.length := List.length_pos_iff.mpr hl
  obtain ⟨v, β', e, h0, h1, hb⟩ := e_take (n := l.length) h (by omega) (by omega)
  obtain ⟨x, hx, ha⟩ := at_of h0 h1
  refine ⟨x, β', hx, hb, ?_⟩
  refine ev_runx [.own (encBag β'), .d (.tuple l)] ?_
  simp [ev_Call, e, ha]
theorem e_states {β : Bag} {most : Int} (h : OkBag β) (h1 : 0 ≤ most) (h2 : most ≤ 1000) :
    ∃ l β', F__law_states [.own (encBag β), .d (.int most)] = some (.d (tupD l), [.own (encBag β'), .d (.int most)]) ∧ OkBag β' ∧ l ≠ [] ∧ (l.length : Int) ≤ most + 1 ∧ (∀ x ∈ l, 0 ≤ x ∧ x ≤ most) ∧ l.Nodup := by
  obtain ⟨os, Γ', e, ⟨β1, hb1, rfl⟩, hR⟩ := lc_inv (mi := mRange1 (mBin gAdd (mVar 1) (mC (.int 1)))) (g := setS 3) (mt := mB (mBin gEq (mCall 2 F__law_take (mAc (mVar 0) (mAc (mC (.int 3)) mA0))) (mC (.int 0)))) (me := mVar 3) (vs := [3])
    (Γ := [.own (encBag β), .d (.int most), .no, .no]) (Γ0 := [.own (encBag β), .d (.int most), .no, .no]) (ts := rngI (most + 1)) PyData.int (fun Γ => ∃ β', OkBag β' ∧ Γ = [.own (encBag β'), .d (.int most), .no, .no]) (fun t o => o = none ∨ o = some (PyData.int t))
    (by have : -4611686018427387904 ≤ most + 1 ∧ most + 1 < 4611686018427387904 := by omega
        simp [rngD_eq, this]) rfl ⟨β, h, rfl⟩ (by
      rintro t _ _ ⟨β1, hb1, rfl⟩
      obtain ⟨v, β2, e, _, _, hb2⟩ := e_take (n := 3) hb1 (by decide) (by decide)
      by_cases hv : v = 0
      · exact ⟨some (.int t), [.own (encBag β2), .d (.int most), .no, .no], by simp [lcStep, ev_Call, e, hv], ⟨β2, hb2, rfl⟩, .inr rfl⟩
      · exact ⟨none, [.own (encBag β2), .d (.int most), .no, .no], by simp [lcStep, ev_Call, e, hv], ⟨β2, hb2, rfl⟩, .inl rfl⟩) (by rw [rngI_len]; show _ ≤ 1000000; omega)
  have hl : ∃ l : List Int, os.filterMap id = l.map PyData.int ∧ l.Sublist (rngI (most + 1)) := by
    clear e
    generalize rngI (most + 1) = ts at hR
    induction hR with
    | nil => exact ⟨[], rfl, .slnil⟩
    | @cons t o _ _ q _ ih =>
      obtain ⟨l, h3, h5⟩ := ih
      rcases q with rfl | rfl
      · exact ⟨l, by simpa using h3, h5.cons _⟩
      · exact ⟨t :: l, by simp [h3], h5.cons_cons _⟩
  obtain ⟨l, hl1, hls⟩ := hl
  have hl3 := hls.length_le
  have hl2 : ∀ x ∈ l, x ∈ rngI (most + 1) := fun x hx => hls.subset hx
  have hnd : l.Nodup := hls.nodup (by
    unfold rngI
    refine List.Pairwise.map _ (fun a b (z : a ≠ b) => by omega) List.nodup_range)
  rw [rngI_len] at hl3
  rw [hl1] at e
  by_cases hn : l = []
  · subst hn
    obtain ⟨v, β2, e2, hv0, hv1, hb2⟩ := e_take (n := most + 1) hb1 (by omega) (by omega)
    refine ⟨[v], β2, ?_, hb2, by simp, by show (1 : Int) ≤ _; omega, fun x hx => ?_, by simp⟩
    · refine ev_runx [.own (encBag β2), .d (.int most), .own (.lst []), .no] ?_
      simp only [List.map_nil] at e
      simp [e, ev_Call, e2, tupD]
    · rw [List.mem_singleton.mp hx]
      omega
  · refine ⟨l, β1, ?_, hb1, hn, by omega, fun x hx => ?_, hnd⟩
    · refine ev_runx [.own (encBag β1), .d (.int most), .own (.lst (l.map PyData.int)), .no] ?_
      simp [e, hn, tupD]
    · have := rngI_mem.mp (hl2 x hx)
      omega
/-! ### books -/
structure Bk where
  name : Str
  errs : Int
  traits : List (Str × Int × Int)
  kinds : List (Str × Str × List (List Int))
def encT (t : Str × Int × Int) : Dat := .tuple [.str t.1, .int t.2.1, .int t.2.2]
def encK (k : Str × Str × List (List Int)) : Dat := .tuple [.str k.1, .str k.2.1, .tuple (k.2.2.map tupD)]
def encB (b : Bk) : Dat := .tuple [.str b.name, .int b.errs, .tuple (b.traits.map encT), .tuple (b.kinds.map encK)]
def OkL (t : Str × Int × Int) (l : List Int) : Prop := l ≠ [] ∧ l.length ≤ 3 ∧ (∀ x ∈ l, 0 ≤ x ∧ x ≤ t.2.1) ∧ l.Nodup
def OkG (s : Str) : Prop := s = "night" ∨ s = "yard"
def OkKd (ts : List (Str × Int × Int)) (k : Str × Str × List (List Int)) : Prop := PySem.W.EachIs OkL ts k.2.2 ∧ OkG k.2.1
def OkTs (ts : List (Str × Int × Int)) : Prop := 2 ≤ ts.length ∧ ts.length ≤ 4 ∧ ∀ t ∈ ts, 1 ≤ t.2.1 ∧ t.2.1 ≤ 2
theorem e_a_kind {β : Bag} {name : Str} {ts : List (Str × Int × Int)} (h : OkBag β) (ht : OkTs ts) :
    ∃ k β', F__law_a_kind [.own (encBag β), .d (.str name), .d (.tuple (ts.map encT))] = some (.d (encK k), [.own (encBag β'), .d (.str name), .d (.tuple (ts.map encT))]) ∧ OkBag β' ∧ OkKd ts k := by
  obtain ⟨g, β1, hg, hb1, e1⟩ := e_some_own (l := [.str "night", .str "yard"]) h (by simp) (by simp)
  have hgs : ∃ s, g = PyData.str s ∧ OkG s := by
    simp only [List.mem_cons, List.not_mem_nil, or_false] at hg
    rcases hg with rfl | rfl
    · exact ⟨_, rfl, .inl rfl⟩
    · exact ⟨_, rfl, .inr rfl⟩
  obtain ⟨s, rfl, hsg⟩ := hgs
  obtain ⟨os, Γ', e2, ⟨β2, hb2, rfl⟩, hR⟩ := lc_inv (mi := mSeqI (mVar 2)) (g := setT 3 (setC (setS 3) (setC (setS 4) (setC (setS 5) setN)))) (mt := mYes) (me := mCall 2 F__law_states (mAc (mVar 0) (mAc (mVar 4) mA0))) (vs := [3, 4, 5])
    (Γ := [.own (encBag β1), .d (.str name), .d (.tuple (ts.map encT)), .no, .no, .no]) (Γ0 := [.own (encBag β1), .d (.str name), .d (.tuple (ts.map encT)), .no, .no, .no]) (ts := ts) encT
    (fun Γ => ∃ β', OkBag β' ∧ Γ = [.own (encBag β'), .d (.str name), .d (.tuple (ts.map encT)), .no, .no, .no]) (fun t o => ∃ l, o = some (tupD l) ∧ OkL t l)
    (by simp) rfl ⟨β1, hb1, rfl⟩ (by
      rintro t hm _ ⟨β1, hb1, rfl⟩
      have q := ht.2.2 t hm
      obtain ⟨l, β2, e, hb2, q1, q2, q3⟩ := e_states (most := t.2.1) hb1 (by omega) (by omega)
      exact ⟨some (tupD l), [.own (encBag β2), .d (.str name), .d (.tuple (ts.map encT)), .no, .no, .no], by simp [lcStep, encT, ev_Call, e], ⟨β2, hb2, rfl⟩, l, rfl, q1, by omega, q3⟩) (by have := ht.2.1; show _ ≤ 1000000; omega)
  have hl : ∃ ls : List (List Int), os.filterMap id = ls.map tupD ∧ PySem.W.EachIs OkL ts ls := by
    clear e2 ht
    induction hR with
    | nil => exact ⟨[], rfl, .nil⟩
    | cons q _ ih =>
      obtain ⟨ls, h3, h4⟩ := ih
      obtain ⟨l, rfl, q⟩ := q
      exact ⟨l :: ls, by simp [h3], .cons q h4⟩
  obtain ⟨ls, hl1, hl2⟩ := hl
  rw [hl1] at e2
  refine ⟨(name, s, ls), β2, ?_, hb2, hl2, hsg⟩
  refine ev_runx [.own (encBag β2), .d (.str name), .d (.tuple (ts.map encT)), .no, .no, .no] ?_
  simp [ev_Call, e1, e2, encK]
end K60


set_option Elab.async false
set_option linter.all false
set_option maxRecDepth 100000
set_option maxHeartbeats 4000000
namespace K60
open PySem DL
def OkBk (b : Bk) : Prop := OkTs b.traits ∧ 2 ≤ b.kinds.length ∧ b.kinds.length ≤ 7 ∧ (∀ k ∈ b.kinds, OkKd b.traits k) ∧ 0 ≤ b.errs ∧ b.errs ≤ 2
theorem cut_names {v : Int} (h0 : 0 ≤ v) (h1 : v < 3) : ∃ ns : List Str, cutL [PyData.str "beak", .str "leg", .str "wing", .str "song"] none (some (2 + v)) = ns.map PyData.str ∧ 2 ≤ ns.length ∧ ns.length ≤ 4 := by
  have : v = 0 ∨ v = 1 ∨ v = 2 := by omega
  rcases this with rfl | rfl | rfl
  · exact ⟨["beak", "leg"], rfl, by decide, by decide⟩
  · exact ⟨["beak", "leg", "wing"], rfl, by decide, by decide⟩
  · exact ⟨["beak", "leg", "wing", "song"], rfl, by decide, by decide⟩
theorem cut_kinds {v : Int} (h0 : 0 ≤ v) (h1 : v < 4) : ∃ ns : List Str, cutL [PyData.str "owl", .str "hen", .str "bat", .str "crow", .str "jay"] none (some (2 + v)) = ns.map PyData.str ∧ 2 ≤ ns.length ∧ ns.length ≤ 5 := by
  have : v = 0 ∨ v = 1 ∨ v = 2 ∨ v = 3 := by omega
  rcases this with rfl | rfl | rfl | rfl
  · exact ⟨["owl", "hen"], rfl, by decide, by decide⟩
  · exact ⟨["owl", "hen", "bat"], rfl, by decide, by decide⟩
  · exact ⟨["owl", "hen", "bat", "crow"], rfl, by decide, by decide⟩
  · exact ⟨["owl", "hen", "bat", "crow", "jay"], rfl, by decide, by decide⟩
theorem gather {α γ : Type} {R : α → γ → Prop} {enc : γ → Dat} : ∀ {ts : List α} {os : List (Option Dat)}, PySem.W.EachIs (fun t o => ∃ c, o = some (enc c) ∧ R t c) ts os → ∃ cs : List γ, os.filterMap id = cs.map enc ∧ PySem.W.EachIs R ts cs
  | _, _, .nil => ⟨[], rfl, .nil⟩
  | _, _, .cons q r => by
    obtain ⟨cs, h3, h4⟩ := gather r
    obtain ⟨c, rfl, q⟩ := q
    exact ⟨c :: cs, by simp [h3], .cons q h4⟩
theorem each_len {α γ : Type} {R : α → γ → Prop} : ∀ {ts : List α} {cs : List γ}, PySem.W.EachIs R ts cs → ts.length = cs.length
  | _, _, .nil => rfl
  | _, _, .cons _ r => by simp [each_len r]
theorem each_mem {α γ : Type} {R : α → γ → Prop} {c : γ} : ∀ {ts : List α} {cs : List γ}, PySem.W.EachIs R ts cs → c ∈ cs → ∃ t ∈ ts, R t c
  | _, _, .nil, h => by cases h
  | _, _, .cons q r, h => by
    rcases List.mem_cons.mp h with rfl | h
    · exact ⟨_, by simp, q⟩
    · obtain ⟨t, h1, h2⟩ := each_mem r h
      exact ⟨t, List.mem_cons_of_mem _ h1, h2⟩
theorem e_book {β : Bag} (h : OkBag β) : ∃ b β', F__law_book [.own (encBag β)] = some (.d (encB b), [.own (encBag β')]) ∧ OkBag β' ∧ OkBk b := by
  obtain ⟨v1, β1, e1, h10, h11, hb1⟩ := e_take (n := 3) h (by decide) (by decide)
  obtain ⟨ns, hns, hn2, hn4⟩ := cut_names h10 h11
  -- the traits
  obtain ⟨os, Γ', e2, ⟨β2, hb2, rfl⟩, hR⟩ := lc_inv (mi := mSeqI (mVar 1)) (g := setS 3) (mt := mYes) (me := mTup (mDc (mVar 3) (mDc (mBin gAdd (mC (.int 1)) (mCall 2 F__law_take (mAc (mVar 0) (mAc (mC (.int 2)) mA0)))) (mDc (mBin gAdd (mC (.int 1)) (mCall 2 F__law_take (mAc (mVar 0) (mAc (mC (.int 4)) mA0)))) mD0)))) (vs := [3])
    (Γ := [.own (encBag β1), .own (.lst (ns.map PyData.str)), .no, .no, .no]) (Γ0 := [.own (encBag β1), .d (.list (ns.map PyData.str)), .no, .no, .no]) (ts := ns) PyData.str
    (fun Γ => ∃ β', OkBag β' ∧ Γ = [.own (encBag β'), .d (.list (ns.map PyData.str)), .no, .no, .no]) (fun t o => ∃ c, o = some (encT c) ∧ (1 ≤ c.2.1 ∧ c.2.1 ≤ 2))
    (by simp) rfl ⟨β1, hb1, rfl⟩ (by
      rintro t hm _ ⟨β1, hb1, rfl⟩
      obtain ⟨v, β2, e, a0, a1, hb2⟩ := e_take (n := 2) hb1 (by decide) (by decide)
      obtain ⟨u, β3, e', b0, b1, hb3⟩ := e_take (n := 4) hb2 (by decide) (by decide)
      exact ⟨some (encT (t, 1 + v, 1 + u)), [.own (encBag β3), .d (.list (ns.map PyData.str)), .no, .no, .no], by simp [lcStep, encT, ev_Call, e, e'], ⟨β3, hb3, rfl⟩, (t, 1 + v, 1 + u), rfl, by constructor <;> simp only <;> omega⟩) (by show _ ≤ 1000000; omega)
  obtain ⟨ts, ht1, ht2⟩ := gather hR
  rw [ht1] at e2
  have hts : OkTs ts := by
    have hl := each_len ht2
    refine ⟨by omega, by omega, fun t ht => ?_⟩
    obtain ⟨_, _, q⟩ := each_mem ht2 ht
    exact q
  obtain ⟨v3, β3, e3, h30, h31, hb3⟩ := e_take (n := 4) hb2 (by decide) (by decide)
  obtain ⟨ks, hks, hk2, hk5⟩ := cut_kinds h30 h31
  obtain ⟨os2, Γ', e4, ⟨β4, hb4, rfl⟩, hR2⟩ := lc_inv (mi := mSeqI (mSl (mLst (mDc (mC (.str "owl")) (mDc (mC (.str "hen")) (mDc (mC (.str "bat")) (mDc (mC (.str "crow")) (mDc (mC (.str "jay")) mD0)))))) mO0 (mO1 (mBin gAdd (mC (.int 2)) (mCall 2 F__law_take (mAc (mVar 0) (mAc (mC (.int 4)) mA0))))))) (g := setS 3) (mt := mYes) (me := mCall 3 F__law_a_kind (mAc (mVar 0) (mAc (mVar 3) (mAc (mVar 2) mA0)))) (vs := [3])
    (Γ := [.own (encBag β2), .d (.list (ns.map PyData.str)), .d (.tuple (ts.map encT)), .no, .no]) (Γ0 := [.own (encBag β3), .d (.list (ns.map PyData.str)), .d (.tuple (ts.map encT)), .no, .no]) (ts := ks) PyData.str
    (fun Γ => ∃ β', OkBag β' ∧ Γ = [.own (encBag β'), .d (.list (ns.map PyData.str)), .d (.tuple (ts.map encT)), .no, .no]) (fun t o => ∃ c, o = some (encK c) ∧ OkKd ts c)
    (by simp [ev_Call, e3, hks]) rfl ⟨β3, hb3, rfl⟩ (by
      rintro t hm _ ⟨β1, hb1, rfl⟩
      obtain ⟨k, β2, e, hb2, hk⟩ := e_a_kind (name := t) hb1 hts
      exact ⟨some (encK k), [.own (encBag β2), .d (.list (ns.map PyData.str)), .d (.tuple (ts.map encT)), .no, .no], by simp [lcStep, ev_Call, e], ⟨β2, hb2, rfl⟩, k, rfl, hk⟩) (by show _ ≤ 1000000; omega)
  obtain ⟨kl, hk1, hk3⟩ := gather hR2
  rw [hk1] at e4
  obtain ⟨er, β5, he, hb5, e5⟩ := e_some_own (l := [.int 0, .int 1, .int 1, .int 0, .int 2]) hb4 (by simp) (by simp)
  have hes : ∃ i, er = PyData.int i ∧ 0 ≤ i ∧ i ≤ 2 := by
    simp only [List.mem_cons, List.not_mem_nil, or_false] at he
    rcases he with rfl | rfl | rfl | rfl | rfl <;> exact ⟨_, rfl, by decide, by decide⟩
  obtain ⟨i, rfl, hi0, hi2⟩ := hes
  have hkl := each_len hk3
  refine ⟨⟨"drawn", i, ts, kl⟩, β5, ?_, hb5, hts, by show 2 ≤ kl.length; omega, by show kl.length ≤ 7; omega, fun k hk => ?_, hi0, hi2⟩
  · refine ev_runx [.own (encBag β5), .d (.list (ns.map PyData.str)), .d (.tuple (ts.map encT)), .no, .d (.tuple (kl.map encK))] ?_
    simp [ev_Call, e1, hns, e2, e4, e5, encB]
  · obtain ⟨_, _, q⟩ := each_mem hk3 hk
    exact q
end K60


set_option Elab.async false
set_option linter.all false
set_option maxRecDepth 100000
set_option maxHeartbeats 4000000
namespace K60
open PySem DL
theorem cut_take {l : List Dat} {i : Nat} : cutL l none (some (i : Int)) = l.take i := by
  unfold cutL
  simp only [HT.sIx]
  rw [if_neg (by omega)]
  simp only [Int.toNat_natCast, List.drop_zero, Nat.sub_zero]
  by_cases h : i ≤ l.length
  · rw [Nat.min_eq_left h]
  · rw [Nat.min_eq_right (by omega), List.take_of_length_le (Nat.le_refl _), List.take_of_length_le (by omega)]
theorem cut_drop {l : List Dat} {i : Nat} : cutL l (some (i : Int)) none = l.drop i := by
  unfold cutL
  simp only [HT.sIx]
  rw [if_neg (by omega)]
  simp only [Int.toNat_natCast]
  by_cases h : i ≤ l.length
  · rw [Nat.min_eq_left h, List.take_of_length_le (by rw [List.length_drop]; exact Nat.le_refl _)]
  · rw [Nat.min_eq_right (by omega), List.drop_of_length_le (Nat.le_refl _), List.drop_of_length_le (by omega)]
    simp
theorem cut_drop1 {l : List Dat} {i : Nat} : cutL l (some ((i : Int) + 1)) none = l.drop (i + 1) := cut_drop (i := i + 1)
/-- the i-th is put anew -/
def putAt {α : Type} (l : List α) (i : Nat) (x : α) : List α := l.take i ++ x :: l.drop (i + 1)
theorem putAt_len {α : Type} {l : List α} {i : Nat} {x : α} (h : i < l.length) : (putAt l i x).length = l.length := by
  unfold putAt
  rw [List.length_append, List.length_cons, List.length_take, List.length_drop]
  omega
theorem putAt_mem {α : Type} {l : List α} {i : Nat} {x y : α} (h : y ∈ putAt l i x) : y = x ∨ y ∈ l := by
  unfold putAt at h
  rcases List.mem_append.mp h with h | h
  · exact .inr (List.mem_of_mem_take h)
  · rcases List.mem_cons.mp h with h | h
    · exact .inl h
    · exact .inr (List.mem_of_mem_drop h)
theorem each_putR {α γ : Type} {R : α → γ → Prop} : ∀ {ts : List α} {cs : List γ} {i : Nat} {t : α} {c : γ}, PySem.W.EachIs R ts cs → ts[i]? = some t → R t c → PySem.W.EachIs R ts (putAt cs i c)
  | _, _, _, _, _, .nil, h, _ => by simp at h
  | _, _, 0, _, _, .cons q r, h, k => by
    simp at h
    subst h
    exact .cons k (by simpa using r)
  | _, _, i + 1, _, _, .cons q r, h, k => .cons q (each_putR r (by simpa using h) k)
theorem each_putL {α γ : Type} {R : α → γ → Prop} : ∀ {ts : List α} {cs : List γ} {i : Nat} {t t' : α}, PySem.W.EachIs R ts cs → ts[i]? = some t → (∀ c, R t c → R t' c) → PySem.W.EachIs R (putAt ts i t') cs
  | _, _, _, _, _, .nil, h, _ => by simp at h
  | _, _, 0, _, _, .cons q r, h, k => by
    simp at h
    subst h
    exact .cons (k _ q) (by simpa using r)
  | _, _, i + 1, _, _, .cons q r, h, k => .cons q (each_putL r (by simpa using h) k)
theorem nodup_le {α : Type} [DecidableEq α] : ∀ {l m : List α}, l.Nodup → (∀ x ∈ l, x ∈ m) → l.length ≤ m.length
  | [], _, _, _ => Nat.zero_le _
  | x :: l, m, nd, h => by
    obtain ⟨n1, n2⟩ := List.nodup_cons.mp nd
    have hx := h x (by simp)
    have := nodup_le (l := l) (m := m.erase x) n2 fun y hy => (List.mem_erase_of_ne (show y ≠ x from fun e => n1 (by rw [← e]; exact hy))).mpr (h y (List.mem_cons_of_mem _ hy))
    rw [List.length_erase_of_mem hx] at this
    have hp := List.length_pos_of_mem hx
    rw [List.length_cons]
    omega
def names7 : List Str := ["ka", "kb", "kc", "kd", "ke", "kf", "kg"]
theorem fresh_one {ks : List Str} (h : ks.length < 7) : ∃ x r, names7.filter (fun x => decide (x ∉ ks)) = x :: r := by
  cases e : names7.filter (fun x => decide (x ∉ ks)) with
  | cons x r => exact ⟨x, r, rfl⟩
  | nil =>
    have hall : ∀ x ∈ names7, x ∈ ks := fun x hx => by
      have := List.filter_eq_nil_iff.mp e x hx
      simpa using this
    have := nodup_le (l := names7) (by decide) hall
    have e7 : names7.length = 7 := by decide
    omega
@[simp] theorem inD_strs (neg : Bool) (x : Str) (ks : List Str) : inD neg (.str x) (.list (ks.map PyData.str)) = some (.bool (if neg then !decide (x ∈ ks) else decide (x ∈ ks))) := by
  have h1 : (ks.map PyData.str).all flatD = true := by simp [flatD]
  have h2 : ((ks.map PyData.str).any fun z => PyData.eqv z (.str x)) = decide (x ∈ ks) := by
    induction ks with
    | nil => simp
    | cons k r ih =>
      have := ih (by simp [flatD])
      rw [List.map_cons, List.any_cons, this, PyData.eqv]
      by_cases e : k = x
      · subst e; simp
      · have e' : ¬ x = k := fun z => e z.symm
        simp [e, e']
  unfold inD
  simp only [ev_seql, Option.bind_some]
  rw [if_pos (by simp [h1]; rfl), h2]
theorem e_fresh {a0 a1 a2 a3 a4 a6 a7 a8 a9 a10 a11 a12 a13 a16 : Slot} {ks : List (Str × Str × List (List Int))} (hs : ks.length < 7) :
    ∃ x r, mLc (mSeqI (mLst (mDc (mC (.str "ka")) (mDc (mC (.str "kb")) (mDc (mC (.str "kc")) (mDc (mC (.str "kd")) (mDc (mC (.str "ke")) (mDc (mC (.str "kf")) (mDc (mC (.str "kg")) mD0))))))))) (setS 14) (mB (mBin gNin (mVar 14) (mLc (mSeqI (mVar 5)) (setS 15) mYes (mBin gIx (mVar 15) (mC (.int 0))) [15]))) (mVar 14) [14] [a0, a1, a2, a3, a4, .d (.tuple (ks.map encK)), a6, a7, a8, a9, a10, a11, a12, a13, .no, .no, a16] = some (.own (.lst (.str x :: r)), [a0, a1, a2, a3, a4, .d (.tuple (ks.map encK)), a6, a7, a8, a9, a10, a11, a12, a13, .no, .no, a16]) := by
  obtain ⟨x, r, hx⟩ := fresh_one (ks := ks.map (·.1)) (by simpa using hs)
  have e := lc_pure (mi := (mSeqI (mLst (mDc (mC (.str "ka")) (mDc (mC (.str "kb")) (mDc (mC (.str "kc")) (mDc (mC (.str "kd")) (mDc (mC (.str "ke")) (mDc (mC (.str "kf")) (mDc (mC (.str "kg")) mD0)))))))))) (g := setS 14)
    (mt := mB (mBin gNin (mVar 14) (mLc (mSeqI (mVar 5)) (setS 15) mYes (mBin gIx (mVar 15) (mC (.int 0))) [15]))) (me := mVar 14) (vs := [14]) (Γ := [a0, a1, a2, a3, a4, .d (.tuple (ks.map encK)), a6, a7, a8, a9, a10, a11, a12, a13, .no, .no, a16]) (ts := names7) PyData.str
    (fun t => if t ∉ ks.map (·.1) then some (.str t) else none) (by simp [names7]) rfl (fun t _ => ?_) (by decide)
  · refine ⟨x, r.map PyData.str, ?_⟩
    rw [e]
    have e2 : ∀ l : List Str, l.filterMap (fun t => if t ∉ ks.map (·.1) then some (PyData.str t) else none) = (l.filter fun x => decide (x ∉ ks.map (·.1))).map PyData.str := fun l => by
      induction l with
      | nil => rfl
      | cons a l ih =>
        by_cases q : a ∉ ks.map (·.1)
        · rw [List.filterMap_cons_some (by rw [if_pos q]), ih, List.filter_cons_of_pos (by simpa using q), List.map_cons]
        · rw [List.filterMap_cons_none (by rw [if_neg q]), ih, List.filter_cons_of_neg (by simpa using q)]
    rw [e2, hx]
    rfl
  · have ei := lc_pure (mi := mSeqI (mVar 5)) (g := setS 15) (mt := mYes) (me := mBin gIx (mVar 15) (mC (.int 0))) (vs := [15]) (Γ := [a0, a1, a2, a3, a4, .d (.tuple (ks.map encK)), a6, a7, a8, a9, a10, a11, a12, a13, .d (.str t), .no, a16]) (ts := ks) encK (fun k => some (.str k.1))
      (by simp) rfl (fun k _ => by simp [lcStep, encK]) (by show _ ≤ 1000000; omega)
    have ek : ks.filterMap (fun k => some (PyData.str k.1)) = (ks.map (·.1)).map PyData.str := by
      rw [List.filterMap_eq_map', List.map_map]
      rfl
    rw [ek] at ei
    clear ek hx
    generalize ks.map (fun k => k.1) = nm at ei ⊢
    by_cases q : t ∈ nm
    · rw [if_neg (fun z => z q)]
      simp [lcStep, ei, q]
    · rw [if_pos q]
      simp [lcStep, ei, q]
/-- a result that is a book -/
theorem e_turned {β : Bag} {b : Bk} (h : OkBag β) (hb : OkBk b) : ∃ b' β', F__law_turned [.own (encBag β), .d (encB b)] = some (.d (encB b'), [.own (encBag β'), .d (encB b)]) ∧ OkBag β' ∧ OkBk b' := by
  obtain ⟨name, errs, ts, ks⟩ := b
  obtain ⟨hts, hk2, hk7, hks, he0, he2⟩ := hb
  simp only at hts hk2 hk7 hks he0 he2
  have ht2 := hts.1
  have ht4 := hts.2.1
  obtain ⟨way, β1, e1, w0, w7, h1⟩ := e_take (n := 7) h (by decide) (by decide)
  obtain ⟨va, β2, e2, a0, a1, h2⟩ := e_take (n := ks.length) h1 (by omega) (by omega)
  obtain ⟨vt, β3, e3, t0, t1, h3⟩ := e_take (n := ts.length) h2 (by omega) (by omega)
  obtain ⟨ia, rfl⟩ : ∃ i : Nat, va = i := ⟨va.toNat, by omega⟩
  obtain ⟨it, rfl⟩ : ∃ i : Nat, vt = i := ⟨vt.toNat, by omega⟩
  have hia : ia < ks.length := by omega
  have hit : it < ts.length := by omega
  obtain ⟨kd, hkd⟩ : ∃ k, ks[ia]? = some k := ⟨_, List.getElem?_eq_getElem hia⟩
  obtain ⟨td, htd⟩ : ∃ t, ts[it]? = some t := ⟨_, List.getElem?_eq_getElem hit⟩
  have hkm : kd ∈ ks := List.mem_of_getElem? hkd
  have htm : td ∈ ts := List.mem_of_getElem? htd
  have hkk := hks kd hkm
  obtain ⟨own, group, shows⟩ := kd
  obtain ⟨tn, tm, tp⟩ := td
  have htd' := hts.2.2 _ htm
  simp only at htd'
  have hsl : ts.length = shows.length := each_len hkk.1
  have atK : L2.atI (ks.map encK) (ia : Int) = some (encK (own, group, shows)) := atI_nat (by rw [List.getElem?_map, hkd]; rfl)
  have atT : L2.atI (ts.map encT) (it : Int) = some (encT (tn, tm, tp)) := atI_nat (by rw [List.getElem?_map, htd]; rfl)
  have mt : min it ts.length = it := by omega
  have mk : min ia ks.length = ia := by omega
  have ms : min it shows.length = it := by omega
  have l1 : it ≤ 999999 := by omega
  have l2 : ia ≤ 999999 := by omega
  have l3 : it + 1 + (ts.length - (it + 1)) ≤ 1000000 := by omega
  have l4 : ia + 1 + (ks.length - (ia + 1)) ≤ 1000000 := by omega
  have l5 : ia + 1 + (ks.length - ia) ≤ 1000000 := by omega
  have l6 : ia + (ks.length - (ia + 1)) ≤ 1000000 := by omega
  have l7 : it + 1 + (shows.length - (it + 1)) ≤ 1000000 := by omega
  by_cases w_0 : way = 0
  · subst w_0
    obtain ⟨er, β4, e4, r0, r1, h4⟩ := e_take (n := 3) h3 (by decide) (by decide)
    refine ⟨⟨name, er, ts, ks⟩, β4, ?_, h4, hts, hk2, hk7, hks, r0, by show er ≤ 2; omega⟩
    refine ev_runx [.own (encBag β4), .d (encB ⟨name, errs, ts, ks⟩), .d (.str name), .d (.int errs), .d (.tuple (ts.map encT)), .d (.tuple (ks.map encK)), .d (.int 0), .d (.int ia), .d (.int it), .d (.str own), .d (.str group), .d (.tuple (shows.map tupD)), .no, .no, .no, .no, .no] ?_
    simp [encB, mPar, parS, ev_Call, e1, e2, e3, e4, atK, encK]
  by_cases w_1 : way = 1
  · subst w_1
    obtain ⟨pr, β4, e4, r0, r1, h4⟩ := e_take (n := 9) h3 (by decide) (by decide)
    refine ⟨⟨name, errs, putAt ts it (tn, tm, 1 + pr), ks⟩, β4, ?_, h4, ⟨?_, ?_, ?_⟩, hk2, hk7, fun k hk => ⟨each_putL (hks k hk).1 htd fun c q => q, (hks k hk).2⟩, he0, he2⟩
    · refine ev_runx [.own (encBag β4), .d (encB ⟨name, errs, ts, ks⟩), .d (.str name), .d (.int errs), .d (.tuple (ts.map encT)), .d (.tuple (ks.map encK)), .d (.int 1), .d (.int ia), .d (.int it), .d (.str own), .d (.str group), .d (.tuple (shows.map tupD)), .d (encT (tn, tm, 1 + pr)), .no, .no, .no, .no] ?_
      have cT : cutL [PyData.str tn, .int tm, .int tp] none (some 2) = [PyData.str tn, .int tm] := cut_take (i := 2)
      simp [encB, mPar, parS, ev_Call, e1, e2, e3, e4, atK, atT, encK, encT, cT, cut_take, cut_drop1, mt, l1, l3, putAt]
    · rw [putAt_len hit]; exact ht2
    · rw [putAt_len hit]; exact ht4
    · intro t h
      rcases putAt_mem h with rfl | h
      · exact htd'
      · exact hts.2.2 t h
  have hset : ∀ k', OkKd ts k' → OkBk ⟨name, errs, ts, putAt ks ia k'⟩ := fun k' hk' => ⟨hts, by show 2 ≤ (putAt ks ia k').length; rw [putAt_len hia]; exact hk2, by show (putAt ks ia k').length ≤ 7; rw [putAt_len hia]; exact hk7, fun k hk => by
    rcases putAt_mem hk with rfl | hk
    · exact hk'
    · exact hks k hk, he0, he2⟩
  by_cases w_2 : way = 2 ∧ ks.length < 7
  · obtain ⟨rfl, h7⟩ := w_2
    obtain ⟨x, r, ef⟩ := e_fresh (a0 := .own (encBag β3)) (a1 := .d (encB ⟨name, errs, ts, ks⟩)) (a2 := .d (.str name)) (a3 := .d (.int errs)) (a4 := .d (.tuple (ts.map encT))) (a6 := .d (.int 2)) (a7 := .d (.int ia)) (a8 := .d (.int it)) (a9 := .d (.str own)) (a10 := .d (.str group)) (a11 := .d (.tuple (shows.map tupD))) (a12 := .no) (a13 := .no) (a16 := .no) h7
    obtain ⟨k', β4, e4, h4, hk'⟩ := e_a_kind (name := x) h3 hts
    refine ⟨⟨name, errs, ts, ks.take ia ++ k' :: ks.drop ia⟩, β4, ?_, h4, hts, ?_, ?_, fun k hk => ?_, he0, he2⟩
    · refine ev_runx [.own (encBag β4), .d (encB ⟨name, errs, ts, ks⟩), .d (.str name), .d (.int errs), .d (.tuple (ts.map encT)), .d (.tuple (ks.map encK)), .d (.int 2), .d (.int ia), .d (.int it), .d (.str own), .d (.str group), .d (.tuple (shows.map tupD)), .no, .own (.lst (.str x :: r)), .no, .no, .no] ?_
      have h7' : (ks.length : Int) < 7 := by omega
      simp only [encB] at ef
      simp [encB, mPar, parS, ev_Call, e1, e2, e3, e4, ef, h7', atK, cut_take, cut_drop, mk, l2, l5, encK]
    · show 2 ≤ (ks.take ia ++ k' :: ks.drop ia).length
      rw [List.length_append, List.length_cons, List.length_take, List.length_drop]; omega
    · show (ks.take ia ++ k' :: ks.drop ia).length ≤ 7
      rw [List.length_append, List.length_cons, List.length_take, List.length_drop]; omega
    · rcases List.mem_append.mp hk with hk | hk
      · exact hks k (List.mem_of_mem_take hk)
      · rcases List.mem_cons.mp hk with rfl | hk
        · exact hk'
        · exact hks k (List.mem_of_mem_drop hk)
  have w2' : way = 2 → ¬ (ks.length : Int) < 7 := fun e z => w_2 ⟨e, by omega⟩
  by_cases w_3 : way = 3 ∧ 2 < ks.length
  · obtain ⟨rfl, h7⟩ := w_3
    refine ⟨⟨name, errs, ts, ks.take ia ++ ks.drop (ia + 1)⟩, β3, ?_, h3, hts, ?_, ?_, fun k hk => ?_, he0, he2⟩
    · refine ev_runx [.own (encBag β3), .d (encB ⟨name, errs, ts, ks⟩), .d (.str name), .d (.int errs), .d (.tuple (ts.map encT)), .d (.tuple (ks.map encK)), .d (.int 3), .d (.int ia), .d (.int it), .d (.str own), .d (.str group), .d (.tuple (shows.map tupD)), .no, .no, .no, .no, .no] ?_
      have h7' : (2 : Int) < ks.length := by omega
      simp [encB, mPar, parS, ev_Call, e1, e2, e3, h7', atK, cut_take, cut_drop1, mk, l2, l6, encK]
    · show 2 ≤ (ks.take ia ++ ks.drop (ia + 1)).length
      rw [List.length_append, List.length_take, List.length_drop]; omega
    · show (ks.take ia ++ ks.drop (ia + 1)).length ≤ 7
      rw [List.length_append, List.length_take, List.length_drop]; omega
    · rcases List.mem_append.mp hk with hk | hk
      · exact hks k (List.mem_of_mem_take hk)
      · exact hks k (List.mem_of_mem_drop hk)
  have w3' : way = 3 → ¬ (2 : Int) < ks.length := fun e z => w_3 ⟨e, by omega⟩
  by_cases w_4 : way = 4
  · subst w_4
    obtain ⟨g, β4, hg, h4, e4⟩ := e_some_own (l := [.str "night", .str "yard"]) h3 (by simp) (by simp)
    have hgs : ∃ s, g = PyData.str s ∧ OkG s := by
      simp only [List.mem_cons, List.not_mem_nil, or_false] at hg
      rcases hg with rfl | rfl
      · exact ⟨_, rfl, .inl rfl⟩
      · exact ⟨_, rfl, .inr rfl⟩
    obtain ⟨s, rfl, hsg⟩ := hgs
    refine ⟨⟨name, errs, ts, putAt ks ia (own, s, shows)⟩, β4, ?_, h4, hset _ ⟨hkk.1, hsg⟩⟩
    refine ev_runx [.own (encBag β4), .d (encB ⟨name, errs, ts, ks⟩), .d (.str name), .d (.int errs), .d (.tuple (ts.map encT)), .d (.tuple (ks.map encK)), .d (.int 4), .d (.int ia), .d (.int it), .d (.str own), .d (.str group), .d (.tuple (shows.map tupD)), .no, .no, .no, .no, .no] ?_
    simp [encB, mPar, parS, ev_Call, e1, e2, e3, e4, atK, cut_take, cut_drop1, mk, l2, l4, encK, putAt]
  · obtain ⟨st, β4, e4, h4, q1, q2, q3⟩ := e_states (most := tm) h3 (by omega) (by omega)
    refine ⟨⟨name, errs, ts, putAt ks ia (own, group, putAt shows it st)⟩, β4, ?_, h4, hset _ ⟨each_putR hkk.1 htd ⟨q1, by omega, q3⟩, hkk.2⟩⟩
    have hw : way = 5 ∨ way = 6 ∨ (way = 2 ∧ ¬ (ks.length : Int) < 7) ∨ (way = 3 ∧ ¬ (2 : Int) < ks.length) := by
      have : way = 2 ∨ way = 3 ∨ way = 5 ∨ way = 6 := by omega
      rcases this with e | e | e | e
      · exact .inr (.inr (.inl ⟨e, w2' e⟩))
      · exact .inr (.inr (.inr ⟨e, w3' e⟩))
      · exact .inl e
      · exact .inr (.inl e)
    have atT2 : L2.atI [PyData.str tn, .int tm, .int tp] 1 = some (.int tm) := rfl
    rcases hw with rfl | rfl | ⟨rfl, hw⟩ | ⟨rfl, hw⟩
    · refine ev_runx [.own (encBag β4), .d (encB ⟨name, errs, ts, ks⟩), .d (.str name), .d (.int errs), .d (.tuple (ts.map encT)), .d (.tuple (ks.map encK)), .d (.int 5), .d (.int ia), .d (.int it), .d (.str own), .d (.str group), .d (.tuple (shows.map tupD)), .no, .no, .no, .no, .d (.tuple ((putAt shows it st).map tupD))] ?_
      simp [encB, mPar, parS, ev_Call, e1, e2, e3, e4, atK, atT, encT, cut_take, cut_drop1, mk, ms, l1, l2, l4, l7, encK, putAt]
    · refine ev_runx [.own (encBag β4), .d (encB ⟨name, errs, ts, ks⟩), .d (.str name), .d (.int errs), .d (.tuple (ts.map encT)), .d (.tuple (ks.map encK)), .d (.int 6), .d (.int ia), .d (.int it), .d (.str own), .d (.str group), .d (.tuple (shows.map tupD)), .no, .no, .no, .no, .d (.tuple ((putAt shows it st).map tupD))] ?_
      simp [encB, mPar, parS, ev_Call, e1, e2, e3, e4, atK, atT, encT, cut_take, cut_drop1, mk, ms, l1, l2, l4, l7, encK, putAt]
    · refine ev_runx [.own (encBag β4), .d (encB ⟨name, errs, ts, ks⟩), .d (.str name), .d (.int errs), .d (.tuple (ts.map encT)), .d (.tuple (ks.map encK)), .d (.int 2), .d (.int ia), .d (.int it), .d (.str own), .d (.str group), .d (.tuple (shows.map tupD)), .no, .no, .no, .no, .d (.tuple ((putAt shows it st).map tupD))] ?_
      simp [encB, mPar, parS, ev_Call, e1, e2, e3, e4, hw, atK, atT, encT, cut_take, cut_drop1, mk, ms, l1, l2, l4, l7, encK, putAt]
    · refine ev_runx [.own (encBag β4), .d (encB ⟨name, errs, ts, ks⟩), .d (.str name), .d (.int errs), .d (.tuple (ts.map encT)), .d (.tuple (ks.map encK)), .d (.int 3), .d (.int ia), .d (.int it), .d (.str own), .d (.str group), .d (.tuple (shows.map tupD)), .no, .no, .no, .no, .d (.tuple ((putAt shows it st).map tupD))] ?_
      simp [encB, mPar, parS, ev_Call, e1, e2, e3, e4, hw, atK, atT, encT, cut_take, cut_drop1, mk, ms, l1, l2, l4, l7, encK, putAt]
end K60


set_option Elab.async false
set_option linter.all false
set_option maxRecDepth 100000
set_option maxHeartbeats 4000000
namespace K60
open PySem DL
/-! ### all rows of columns -/
def addCol (found : List (List Int)) (col : List Int) : List (List Int) := found.flatMap fun row => col.map fun one => row ++ [one]
def rowsI (cols : List (List Int)) : List (List Int) := cols.foldl addCol [[]]
def encC (c : List Int) : Dat := .list (c.map PyData.int)
theorem flatMap_len {found : List (List Int)} {col : List Int} : (addCol found col).length = found.length * col.length := by
  unfold addCol
  induction found with
  | nil => simp
  | cons r f ih => rw [List.flatMap_cons, List.length_append, ih, List.length_map, List.length_cons, Nat.add_mul]; omega
theorem e_row {s3 : Slot} {cs fd : Dat} {row col : List Int} {l : List Dat} (h : row.length ≤ 1000) (hc : col.length ≤ 1000) :
    mLc (mSeqI (mVar 2)) (setS 5) mYes (mBin gAdd (mVar 4) (mTup (mDc (mVar 5) mD0))) [5] [.d cs, .d fd, .d (encC col), s3, .d (tupD row), .no] = some (.own (.lst ((col.map fun one => row ++ [one]).map tupD)), [.d cs, .d fd, .d (encC col), s3, .d (tupD row), .no]) := by
  have h1 : row.length ≤ 999999 := by omega
  have e := lc_pure (mi := mSeqI (mVar 2)) (g := setS 5) (mt := mYes) (me := mBin gAdd (mVar 4) (mTup (mDc (mVar 5) mD0))) (vs := [5]) (Γ := [.d cs, .d fd, .d (encC col), s3, .d (tupD row), .no]) (ts := col) PyData.int (fun one => some (tupD (row ++ [one])))
    (by simp [encC]) rfl (fun t _ => by simp [lcStep, tupD, h1]) (by show _ ≤ 1000000; omega)
  rw [e]
  simp [List.filterMap_eq_map', List.map_map, Function.comp_def]
def InL (cs : Dat) (col : List Int) (fd : List (List Int)) (left : List (List Int)) (longer : List (List Int)) (Γ : DL.Env) : Prop :=
  (∃ s4, Γ = [.d cs, .d (.list (fd.map tupD)), .d (encC col), .own (.lst (longer.map tupD)), s4, .no]) ∧ longer.length + left.length * col.length ≤ 100000 ∧ col.length ≤ 1000 ∧ ∀ r ∈ left, r.length ≤ 1000
theorem e_inner {cs : Dat} {col : List Int} {fd longer : List (List Int)} {Γ : DL.Env} (h : InL cs col fd fd longer Γ) :
    ∃ Γ', forL (setS 4) (mSet (setS 3) (mBin gAdd (mVar 3) (mLc (mSeqI (mVar 2)) (setS 5) mYes (mBin gAdd (mVar 4) (mTup (mDc (mVar 5) mD0))) [5]))) (fd.map tupD) Γ = some (.nx, Γ') ∧
      InL cs col fd [] (fd.foldl (fun s row => s ++ col.map fun one => row ++ [one]) longer) Γ' := by
  refine forL_rem tupD (InL cs col fd) (fun s row => s ++ col.map fun one => row ++ [one]) ?_ h
  rintro row r s Γ ⟨⟨s4, rfl⟩, h1, h2, h3⟩
  have e := e_row (s3 := .own (.lst (s.map tupD))) (cs := cs) (fd := .list (fd.map tupD)) (row := row) (col := col) (l := []) (h3 row (by simp)) h2
  rw [List.length_cons, Nat.add_mul, Nat.one_mul] at h1
  have h5 : s.length + col.length ≤ 1000000 := by omega
  refine ⟨_, ?_, ⟨⟨.d (tupD row), rfl⟩, ?_, h2, fun x hx => h3 x (List.mem_cons_of_mem _ hx)⟩⟩
  · simp only [List.map_map, Function.comp_def] at e
    simp [forStep, e, h5, List.map_map, Function.comp_def]
  · rw [List.length_append, List.length_map]
    omega
theorem foldl_app {col : List Int} : ∀ {fd longer : List (List Int)}, fd.foldl (fun s row => s ++ col.map fun one => row ++ [one]) longer = longer ++ addCol fd col
  | [], longer => by simp [addCol]
  | r :: fd, longer => by rw [List.foldl_cons, foldl_app]; simp [addCol]
/-- found, held or told -/
def InR (cs : Dat) (left : List (List Int)) (found : List (List Int)) (Γ : DL.Env) : Prop :=
  (∃ s2 s3 s4, Γ = [.d cs, .own (.lst (found.map tupD)), s2, s3, s4, .no] ∨ Γ = [.d cs, .d (.list (found.map tupD)), s2, s3, s4, .no]) ∧ found.length * 3 ^ left.length ≤ 100 ∧ (∀ c ∈ left, c.length ≤ 3) ∧ ∀ r ∈ found, r.length + left.length ≤ 4
theorem e_outer {cs : Dat} {cols found : List (List Int)} {Γ : DL.Env} (h : InR cs cols found Γ) :
    ∃ Γ', forL (setS 2) (mSeq (mSet (setS 3) (mLst mD0)) (mSeq (mFor (mSeqI (mVar 1)) (setS 4) (mSet (setS 3) (mBin gAdd (mVar 3) (mLc (mSeqI (mVar 2)) (setS 5) mYes (mBin gAdd (mVar 4) (mTup (mDc (mVar 5) mD0))) [5])))) (mSet (setS 1) (mVar 3)))) (cols.map encC) Γ = some (.nx, Γ') ∧
      InR cs [] (cols.foldl addCol found) Γ' := by
  refine forL_rem encC (InR cs) addCol ?_ h
  rintro col r found Γ ⟨⟨s2, s3, s4, hΓ⟩, h1, h2, h3⟩
  have hc := h2 col (by simp)
  have hpow : found.length * 3 ≤ 100 := by
    have h4 : found.length * 3 ^ (col :: r).length = found.length * 3 * 3 ^ r.length := by rw [List.length_cons, Nat.pow_succ, Nat.mul_assoc, Nat.mul_comm (3 ^ r.length)]
    have h5 : 1 ≤ 3 ^ r.length := Nat.one_le_pow _ _ (by decide)
    have h6 : found.length * 3 * 1 ≤ found.length * 3 * 3 ^ r.length := Nat.mul_le_mul_left _ h5
    omega
  have hin : InL cs col found found [] [.d cs, .d (.list (found.map tupD)), .d (encC col), .own (.lst []), s4, .no] := ⟨⟨s4, rfl⟩, by
    have : found.length * col.length ≤ found.length * 3 := Nat.mul_le_mul_left _ hc
    simp only [List.length_nil]
    omega, by omega, fun r hr => by have := h3 r hr; omega⟩
  obtain ⟨Γ1, e1, ⟨⟨s4', rfl⟩, _⟩⟩ := e_inner hin
  rw [foldl_app, List.nil_append] at e1
  refine ⟨[.d cs, .d (.list ((addCol found col).map tupD)), .d (encC col), .d (.list ((addCol found col).map tupD)), s4', .no], ?_, ⟨⟨_, _, _, .inr rfl⟩, ?_, fun c hc => h2 c (List.mem_cons_of_mem _ hc), ?_⟩⟩
  · rcases hΓ with rfl | rfl
    · simp [forStep, e1]
    · simp [forStep, e1]
  · rw [flatMap_len]
    have h4 : found.length * 3 ^ (col :: r).length = found.length * 3 * 3 ^ r.length := by rw [List.length_cons, Nat.pow_succ, Nat.mul_assoc, Nat.mul_comm (3 ^ r.length)]
    have h5 : found.length * col.length * 3 ^ r.length ≤ found.length * 3 * 3 ^ r.length := Nat.mul_le_mul_right _ (Nat.mul_le_mul_left _ hc)
    omega
  · intro x hx
    unfold addCol at hx
    obtain ⟨row, hr, hx⟩ := List.mem_flatMap.mp hx
    obtain ⟨one, _, rfl⟩ := List.mem_map.mp hx
    have := h3 row hr
    rw [List.length_cons] at this
    rw [List.length_append, List.length_singleton]
    omega
theorem e_rows_of {cols : List (List Int)} (h : cols.length ≤ 4) (h2 : ∀ c ∈ cols, c.length ≤ 3) :
    ∃ r, F__law_rows_of [.own (.lst (cols.map encC))] = some (r, [.d (.list (cols.map encC))]) ∧ (r = .own (.lst ((rowsI cols).map tupD)) ∨ r = .d (.list ((rowsI cols).map tupD))) := by
  have hp : 3 ^ cols.length ≤ 3 ^ 4 := Nat.pow_le_pow_right (by decide) h
  obtain ⟨Γ', e, ⟨⟨s2, s3, s4, hΓ⟩, _⟩⟩ := e_outer (cs := .list (cols.map encC)) (cols := cols) (found := [[]]) (Γ := [.d (.list (cols.map encC)), .own (.lst [.tuple []]), .no, .no, .no, .no])
    ⟨⟨.no, .no, .no, .inl rfl⟩, by simp only [List.length_singleton, Nat.one_mul]; omega, h2, fun r hr => by rw [List.mem_singleton.mp hr]; simpa using h⟩
  rcases hΓ with rfl | rfl
  · refine ⟨_, ev_runx [.d (.list (cols.map encC)), .no, s2, s3, s4, .no] ?_, .inl rfl⟩
    simp [e, rowsI]
  · refine ⟨_, ev_runx [.d (.list (cols.map encC)), .d (.list ((rowsI cols).map tupD)), s2, s3, s4, .no] ?_, .inr rfl⟩
    simp [e, rowsI]
theorem rngI_le {n : Int} (h : n ≤ 3) : (rngI n).length ≤ 3 := by rw [rngI_len]; omega
/-- all whole readings -/
def wholesI (b : Bk) : List (List Int) := rowsI (b.traits.map fun t => rngI (t.2.1 + 1))
theorem e_wholes {b : Bk} (hb : OkTs b.traits) : ∃ r, F__law_wholes [.d (encB b)] = some (r, [.d (encB b)]) ∧ (r = .own (.lst ((wholesI b).map tupD)) ∨ r = .d (.list ((wholesI b).map tupD))) := by
  obtain ⟨h2, h4, hts⟩ := hb
  have e := lc_pure (mi := mSeqI (mBin gIx (mVar 0) (mC (.int 2)))) (g := setT 3 (setC (setS 1) (setC (setS 2) (setC (setS 3) setN)))) (mt := mYes) (me := mUn gListRg (mBin gAdd (mVar 2) (mC (.int 1)))) (vs := [1, 2, 3])
    (Γ := [.d (encB b), .no, .no, .no]) (ts := b.traits) encT (fun t => some (encC (rngI (t.2.1 + 1)))) (by simp [encB]) rfl (fun t ht => by
      have q := hts t ht
      have h1 : 0 ≤ t.2.1 + 1 ∧ t.2.1 + 1 ≤ 1000000 := by omega
      have e2 : rangeD (t.2.1 + 1) = (rngI (t.2.1 + 1)).map PyData.int := by unfold rangeD rngI; rw [List.map_map]; rfl
      simp [lcStep, encT, gListRg, h1, e2, encC]) (by show _ ≤ 1000000; omega)
  have ef : b.traits.filterMap (fun t => some (encC (rngI (t.2.1 + 1)))) = (b.traits.map fun t => rngI (t.2.1 + 1)).map encC := by
    rw [List.filterMap_eq_map', List.map_map]
    rfl
  rw [ef] at e
  obtain ⟨r, er, hr⟩ := e_rows_of (cols := b.traits.map fun t => rngI (t.2.1 + 1)) (by simpa using h4) (fun c hc => by
    obtain ⟨t, ht, rfl⟩ := List.mem_map.mp hc
    have q := hts t ht
    exact rngI_le (by omega))
  have hk : keepable r = true := by rcases hr with rfl | rfl <;> rfl
  refine ⟨r, ev_runx [.d (encB b), .no, .no, .no] ?_ hk, hr⟩
  rcases hr with rfl | rfl
  · simp only [List.map_map] at e er
    simp [ev_Call, e, er]
  · simp only [List.map_map] at e er
    simp [ev_Call, e, er]
end K60


set_option Elab.async false
set_option linter.all false
set_option maxRecDepth 100000
set_option maxHeartbeats 4000000
namespace K60
open PySem DL
mutual
/-- data that may be held against each other -/
def okA : Dat → Bool
  | .str x => SeqAt.shaped (.str x)
  | .list l => okAll l
  | .tuple l => okAll l
  | .dict _ => false
  | _ => true
def okAll : List Dat → Bool
  | [] => true
  | d :: r => okA d && okAll r
end
mutual
def szA : Dat → Nat
  | .list l => szAll l + 1
  | .tuple l => szAll l + 1
  | _ => 1
def szAll : List Dat → Nat
  | [] => 0
  | d :: r => szA d + szAll r
end
theorem szAll_app : ∀ {l m : List Dat}, szAll (l ++ m) = szAll l + szAll m
  | [], m => by simp [szAll]
  | d :: r, m => by rw [List.cons_append, szAll, szAll, szAll_app]; omega
theorem okAll_app : ∀ {l m : List Dat}, okAll (l ++ m) = (okAll l && okAll m)
  | [], m => by simp [okAll]
  | d :: r, m => by rw [List.cons_append, okAll, okAll, okAll_app, Bool.and_assoc]
theorem len_le_sz : ∀ {l : List Dat}, l.length ≤ szAll l
  | [] => Nat.zero_le _
  | d :: r => by
    have := len_le_sz (l := r)
    have h : 1 ≤ szA d := by cases d <;> simp [szA]
    rw [szAll, List.length_cons]
    omega
def dup (d : Dat) : Dat := .tuple [d, d]
theorem dup_u (d : Dat) : dup d = .tuple [d, d] := rfl
theorem zip_self (l : List Dat) : zipL l l = l.map dup := by
  induction l with
  | nil => rfl
  | cons d r ih => simp only [zipL, List.zip_cons_cons, List.map_cons] at ih ⊢; rw [ih]; rfl
abbrev condA : MT := mB (mBin gLt (mVar 3) (mUn (gSc1 lenD) (mVar 2)))
abbrev bodyA : MS := mSeq (mSet (setT 2 (setC (setS 4) (setC (setS 5) setN))) (mBin gIx (mVar 2) (mVar 3))) (mSeq (mAug 3 (fun i j => i + j) (mC (.int 1))) (mSeq (mIfS (mOrT (mB (mBin gNe (mIsi .bool (mVar 4)) (mIsi .bool (mVar 5)))) (mB (mBin gNe (mIsi .str (mVar 4)) (mIsi .str (mVar 5))))) (mRet 2 (mC (.bool false))) mNext) (mSeq (mIfS (mB (mBin gNe (mIsi2 .tup .lst (mVar 4)) (mIsi2 .tup .lst (mVar 5)))) (mRet 2 (mC (.bool false))) mNext) (mIfS (mTru (mIsi2 .tup .lst (mVar 4))) (mSeq (mIfS (mOrT (mB (mBin gNe (mIsi .tup (mVar 4)) (mIsi .tup (mVar 5)))) (mB (mBin gNe (mUn (gSc1 lenD) (mVar 4)) (mUn (gSc1 lenD) (mVar 5))))) (mRet 2 (mC (.bool false))) mNext) (mDrop (mExt 2 (mListZip (mVar 4) (mVar 5))))) (mIfS (mB (mBin gNe (mVar 4) (mVar 5))) (mRet 2 (mC (.bool false))) mNext)))))
theorem ne_self {d : Dat} (h : SeqAt.shaped d = true) (e : PyData.eqv d d = true) : neD d d = some (.bool false) := by
  unfold neD
  rw [if_pos (by rw [h]; rfl), e]
  rfl
@[simp] theorem ne_bb (b : Bool) : neD (.bool b) (.bool b) = some (.bool false) := ne_self (by simp [SeqAt.shaped, PyData.canLay0, PyData.depth]) (by cases b <;> rfl)
@[simp] theorem ne_ii (i : Int) : neD (.int i) (.int i) = some (.bool false) := ne_self (by simp [SeqAt.shaped, PyData.canLay0, PyData.depth]) (by rw [PyData.eqv]; simp)
@[simp] theorem ne_nn : neD .none .none = some (.bool false) := ne_self (by simp [SeqAt.shaped, PyData.canLay0, PyData.depth]) rfl
@[simp] theorem ev_Aug (i : Nat) (g : Int → Int → Int) (m : M) (Γ : DL.Env) : mAug i g m Γ = match Γ[i]? with
  | some (.d (.int n)) => (m Γ).bind fun p => match p.1 with
    | .d (.int z) => some (.nx, p.2.set i (.d (.int (g n z))))
    | _ => none
  | _ => none := rfl
@[simp] theorem ev_LZ (a b : M) (Γ : DL.Env) : mListZip a b Γ = (a Γ).bind fun p => (settle p.2 p.1).bind fun p' => (b p'.2).bind fun q => (settle q.2 q.1).bind fun q' => (seqOf p'.1).bind fun l1 => (seqOf q'.1).bind fun l2 =>
  if l1.1 = l2.1 then some (.own (.lst (zipL l1.2 l2.2)), q'.2) else none := rfl
theorem stepA {a b s4 s5 : DL.Slot} {pre rest : List Dat} {d : Dat} (hd : okA d = true) (hz : pre.length + szAll (d :: rest) ≤ 900000) :
    ∃ more, bodyA [a, b, .own (.lst ((pre ++ d :: rest).map dup)), .d (.int pre.length), s4, s5] = some (.nx, [a, b, .own (.lst ((pre ++ d :: (rest ++ more)).map dup)), .d (.int (pre.length + 1)), .d d, .d d]) ∧ okAll more = true ∧ szAll more + 1 = szA d := by
  have hat : L2.atI (pre.map dup ++ .tuple [d, d] :: rest.map dup) (pre.length : Int) = some (.tuple [d, d]) := by rw [← dup_u]; exact atI_nat (by simp)
  simp only [szAll] at hz
  have hr := len_le_sz (l := rest)
  cases d with
  | none => exact ⟨[], by simp [hat, dup_u, isTy, truD], rfl, by simp [szAll, szA]⟩
  | bool x => exact ⟨[], by simp [hat, dup_u, isTy, truD], rfl, by simp [szAll, szA]⟩
  | int x => exact ⟨[], by simp [hat, dup_u, isTy, truD], rfl, by simp [szAll, szA]⟩
  | str x =>
    have hs : neD (.str x) (.str x) = some (.bool false) := ne_self hd (by rw [PyData.eqv]; simp)
    exact ⟨[], by simp [hat, dup_u, isTy, truD, hs], rfl, by simp [szAll, szA]⟩
  | list l =>
    have hl := len_le_sz (l := l)
    simp only [szA] at hz
    have h9 : pre.length + (rest.length + 1) + l.length ≤ 1000000 := by omega
    refine ⟨l, ?_, hd, by simp [szA]⟩
    simp [hat, dup_u, isTy, truD, zip_self, h9]
  | tuple l =>
    have hl := len_le_sz (l := l)
    simp only [szA] at hz
    have h9 : pre.length + (rest.length + 1) + l.length ≤ 1000000 := by omega
    refine ⟨l, ?_, hd, by simp [szA]⟩
    simp [hat, dup_u, isTy, truD, zip_self, h9]
  | dict l => cases hd

theorem whL_nx {mt : MT} {m : MS} {n : Nat} {Γ Γ1 : DL.Env} (h : mt Γ = some (true, Γ)) (h2 : m Γ = some (.nx, Γ1)) : whL mt m (n + 1) Γ = whL mt m n Γ1 := by
  rw [whL, h]
  simp [h2]
theorem whL_no {mt : MT} {m : MS} {n : Nat} {Γ : DL.Env} (h : mt Γ = some (false, Γ)) : whL mt m (n + 1) Γ = some (.nx, Γ) := by
  rw [whL, h]
  simp
theorem loopA {a b : DL.Slot} : ∀ (n : Nat) {pre rest : List Dat} {s4 s5 : DL.Slot}, okAll rest = true → pre.length + szAll rest ≤ 900000 → szAll rest < n →
    ∃ x y s4' s5', whL condA bodyA n [a, b, .own (.lst ((pre ++ rest).map dup)), .d (.int pre.length), s4, s5] = some (.nx, [a, b, .own (.lst x), .d (.int y), s4', s5'])
  | 0, _, _, _, _, _, _, h => absurd h (Nat.not_lt_zero _)
  | n + 1, pre, [], s4, s5, _, _, _ => ⟨pre.map dup, pre.length, s4, s5, by rw [whL_no (by simp [condA, truD])]; simp⟩
  | n + 1, pre, d :: rest, s4, s5, ho, hz, hn => by
    rw [okAll, Bool.and_eq_true] at ho
    obtain ⟨more, h1, h2, h3⟩ := stepA (a := a) (b := b) (s4 := s4) (s5 := s5) ho.1 hz
    rw [szAll] at hz hn
    obtain ⟨x, y, s4', s5', h⟩ := loopA (a := a) (b := b) n (pre := pre ++ [d]) (rest := rest ++ more) (s4 := .d d) (s5 := .d d) (by rw [okAll_app, ho.2, h2]; rfl) (by rw [szAll_app, List.length_append, List.length_singleton]; omega) (by rw [szAll_app]; omega)
    refine ⟨x, y, s4', s5', ?_⟩
    rw [whL_nx (by simp [condA, truD]; omega) h1]
    rw [List.append_assoc] at h
    simpa using h
/-- a slot that holds this data -/
def IsS (s : DL.Slot) (d : Dat) : Prop := s = .d d ∨ ∃ o, s = .own o ∧ o.dat = d
theorem IsS.d {d : Dat} : IsS (.d d) d := .inl rfl
theorem IsS.lst {l : List Dat} : IsS (.own (.lst l)) (.list l) := .inr ⟨_, rfl, rfl⟩
theorem e_alike {s t : DL.Slot} {d : Dat} (hs : IsS s d) (ht : IsS t d) (ho : okA d = true) (hz : szA d ≤ 800000) : F__law_alike [s, t] = some (.d (.bool true), [.d d, .d d]) := by
  obtain ⟨x, y, s4, s5, h⟩ := loopA (a := .d d) (b := .d d) fuel (pre := []) (rest := [d]) (s4 := .no) (s5 := .no) (by simp [okAll, ho]) (by simp [szAll]; omega) (by simp [szAll, fuel]; omega)
  simp only [List.nil_append, List.map_cons, List.map_nil, dup_u, List.length_nil] at h
  have hh : ∀ s t, IsS s d → IsS t d → (mPar [2, 3] (mAc (mLst (mDc (mTup (mDc (mVar 0) (mDc (mVar 1) mD0))) mD0)) (mAc (mC (.int 0)) mA0))) ([s, t] ++ List.replicate 4 .no) = some (.nx, [.d d, .d d, .own (.lst [.tuple [d, d]]), .d (.int 0), .no, .no]) := by
    rintro s t (rfl | ⟨o, rfl, rfl⟩) (rfl | ⟨o', rfl, h'⟩)
    · simp [mPar, parS]
    · subst h'; simp [mPar, parS]
    · simp [mPar, parS]
    · simp [mPar, parS, h']
  unfold F__law_alike
  refine ev_runx [.d d, .d d, .own (.lst x), .d (.int y), s4, s5] ?_
  rw [ev_Seq, hh s t hs ht]
  simp only [Option.bind_some, ev_Seq]
  erw [h]
  simp
end K60


set_option Elab.async false
set_option linter.all false
set_option maxRecDepth 100000
set_option maxHeartbeats 4000000
namespace K60
open PySem DL
/-- readings of a book -/
def OkR (b : Bk) (r : List Int) : Prop := PySem.W.EachIs (fun t x => -1 ≤ x ∧ x ≤ t.2.1) b.traits r
@[simp] theorem ev_Zip (ma mb : M) (Γ : DL.Env) : mZip ma mb Γ = (ma Γ).bind fun p => (settle p.2 p.1).bind fun p' => (mb p'.2).bind fun q => (settle q.2 q.1).bind fun q' => (seqOf p'.1).bind fun l1 => (seqOf q'.1).bind fun l2 =>
  if l1.1 = l2.1 then some (zipL l1.2 l2.2, q'.2) else none := rfl
def encE (q : Int × Nat) : Dat := .tuple [.int q.2, .int q.1]
theorem enumL_ints (r : List Int) : enumL (r.map PyData.int) = r.zipIdx.map encE := by
  unfold enumL
  rw [List.zipIdx_map, List.map_map]
  rfl
@[simp] theorem ev_seqr (r : List Int) : seqOf (tupD r) = some (false, r.map PyData.int) := rfl
def pos (q : Int × Nat) : Int := q.2
def idxs (p : Int × Nat → Bool) (r : List Int) : List Int := (r.zipIdx.filter p).map pos
theorem fm_filter {α : Type} (p : α → Bool) (f : α → Dat) (l : List α) : l.filterMap (fun x => if p x then some (f x) else none) = (l.filter p).map f := by
  induction l with
  | nil => rfl
  | cons x r ih => by_cases h : p x <;> simp [h, ih]
theorem fm_idxs (p : Int × Nat → Bool) (r : List Int) : r.zipIdx.filterMap (fun q => if p q then some (.int (q.2 : Int)) else none) = (idxs p r).map PyData.int := by
  rw [fm_filter p (fun q => PyData.int (q.2 : Int))]
  unfold idxs
  rw [List.map_map]
  rfl
theorem flat_rep {α : Type} (x : α) (n : Nat) : (List.replicate n [x]).flatten = List.replicate n x := by
  induction n with
  | zero => rfl
  | succ n ih => rw [List.replicate_succ, List.flatten_cons, ih]; rfl
theorem flat_ints (r : List Int) : (r.map PyData.int).all flatD = true := by
  rw [List.all_eq_true]
  intro x hx
  obtain ⟨i, _, rfl⟩ := List.mem_map.mp hx
  rfl
@[simp] theorem ev_inI (neg : Bool) (x : Int) (r : List Int) : inD neg (.int x) (tupD r) = some (.bool (if neg then !r.contains x else r.contains x)) := by
  have e : (r.map PyData.int).any (fun z => PyData.eqv z (.int x)) = r.contains x := by
    induction r with
    | nil => rfl
    | cons y r ih =>
      rw [List.map_cons, List.any_cons, ih, List.contains_cons, PyData.eqv]
      congr 1
      by_cases h : y = x
      · subst h; simp
      · simp [h, Ne.symm h, BEq.comm (a := x)]
  unfold inD tupD
  simp only [ev_seqt, Option.bind_some]
  rw [if_pos (by rw [flat_ints]; rfl), e]
def missI (shows : List (List Int)) (r : List Int) : List Int := idxs (fun q => q.1 != -1 && !((shows[q.2]?).getD []).contains q.1) r
theorem idxs_mem {r : List Int} {q : Int × Nat} (h : q ∈ r.zipIdx) : r[q.2]? = some q.1 ∧ q.2 < r.length := by
  obtain ⟨x, i⟩ := q
  have := List.mem_zipIdx_iff_getElem?.mp h
  exact ⟨this, (List.getElem?_eq_some_iff.mp this).1⟩
theorem e_lmisses {b : Bk} {k : Nat} {kd : Str × Str × List (List Int)} {r : List Int} (hk : b.kinds[k]? = some kd) (hl : r.length = kd.2.2.length) (hr : ∀ x ∈ r, -1 ≤ x) (hz : r.length ≤ 1000) :
    F__law_misses [.d (encB b), .d (.int k), .d (tupD r)] = some (.d (tupD (missI kd.2.2 r)), [.d (encB b), .d (.int k), .d (tupD r)]) := by
  have a1 : L2.atI (b.kinds.map encK) (k : Int) = some (encK kd) := atI_nat (by rw [List.getElem?_map, hk]; rfl)
  have e := lc_pure (mi := mEnum (mVar 2)) (g := setT 2 (setC (setS 3) (setC (setS 4) setN))) (mt := mAndT (mB (mBin gGe (mVar 4) (mC (.int 0)))) (mB (mBin gNin (mVar 4) (mBin gIx (mBin gIx (mBin gIx (mBin gIx (mVar 0) (mC (.int 3))) (mVar 1)) (mC (.int 2))) (mVar 3))))) (me := mVar 3) (vs := [3, 4]) (Γ := [.d (encB b), .d (.int k), .d (tupD r), .no, .no]) (ts := r.zipIdx) encE (fun q => if q.1 != -1 && !((kd.2.2[q.2]?).getD []).contains q.1 then some (.int (q.2 : Int)) else none) (by simp [tupD, enumL_ints]) rfl (by
    rintro ⟨x, i⟩ hq
    obtain ⟨q1, q2⟩ := idxs_mem hq
    have hx := hr x (List.mem_iff_getElem?.mpr ⟨i, q1⟩)
    have q3 : i < kd.2.2.length := by rw [← hl]; exact q2
    have a2 : L2.atI (kd.2.2.map tupD) (i : Int) = some (tupD kd.2.2[i]) := atI_nat (by rw [List.getElem?_map, List.getElem?_eq_getElem q3]; rfl)
    have e3 : (kd.2.2[i]?).getD [] = kd.2.2[i] := by rw [List.getElem?_eq_getElem q3]; rfl
    by_cases h : x = -1
    · subst h
      simp [lcStep, encE, gGe]
    · have h0 : 0 ≤ x := by omega
      cases hc : kd.2.2[i].contains x <;> simp [lcStep, encE, gGe, h, h0, encB, encK, a1, a2, gNin, e3, hc, -List.contains_eq_mem]) (by rw [List.length_zipIdx]; show _ ≤ 1000000; omega)
  rw [fm_idxs] at e
  refine ev_runx [.d (encB b), .d (.int k), .d (tupD r), .no, .no] ?_
  simp [e, -List.contains_eq_mem]
  rfl
theorem miss_eq {shows : List (List Int)} {r : List Int} : (r.zipIdx.filter fun a : Int × Nat => !((shows[a.2]?).getD []).contains a.1 && a.1 != -1).map (fun q => PyData.int (q.2 : Int)) = (missI shows r).map PyData.int := by
  unfold missI idxs
  rw [List.map_map]
  have : (fun a : Int × Nat => !((shows[a.2]?).getD []).contains a.1 && a.1 != -1) = fun q => q.1 != -1 && !((shows[q.2]?).getD []).contains q.1 := by
    funext q; rw [Bool.and_comm]
  rw [this]
  rfl
end K60


set_option Elab.async false
set_option linter.all false
set_option maxRecDepth 100000
set_option maxHeartbeats 4000000
namespace K60
open PySem DL
def showsK (b : Bk) (k : Nat) : List (List Int) := ((b.kinds[k]?).map (·.2.2)).getD []
def groupK (b : Bk) (k : Nat) : Str := ((b.kinds[k]?).map (·.2.1)).getD ""
def missK (b : Bk) (k : Nat) (r : List Int) : List Int := missI (showsK b k) r
def castN (l : List Nat) : List Int := l.map fun (i : Nat) => (i : Int)
theorem rd_ok {b : Bk} {r : List Int} {k : Nat} (hb : OkBk b) (hr : OkR b r) (hk : k < b.kinds.length) : ∃ kd, b.kinds[k]? = some kd ∧ kd ∈ b.kinds ∧ OkKd b.traits kd ∧ r.length = kd.2.2.length ∧ r.length ≤ 4 ∧ (∀ x ∈ r, -1 ≤ x) ∧ showsK b k = kd.2.2 ∧ groupK b k = kd.2.1 := by
  have e : b.kinds[k]? = some b.kinds[k] := List.getElem?_eq_getElem hk
  have hm : b.kinds[k] ∈ b.kinds := List.getElem_mem hk
  have ho := hb.2.2.2.1 _ hm
  have l1 := each_len ho.1
  have l2 := each_len hr
  have l3 := hb.1.2.1
  refine ⟨_, e, hm, ho, by omega, by omega, fun x hx => ?_, by simp [showsK, e], by simp [groupK, e]⟩
  obtain ⟨t, _, q⟩ := each_mem hr hx
  exact q.1
theorem ev_CallX (n : Nat) (F : FS) (ma : MA) (Γ : DL.Env) : mCall n F ma Γ = (ma Γ).bind fun p => (argsS p.2 p.1).bind fun args => if p.1.length = n ∧ (borIx p.1).Nodup then (F args).bind fun q => if keepable q.1 = true ∧ q.2.length = args.length then some (q.1, backS p.2 p.1 q.2) else none else none := id rfl
theorem rng_x {m : M} {Γ Γ' : DL.Env} {x : Int} (h : m Γ = some (.d (.int x), Γ')) (h0 : 0 ≤ x) (hn : x ≤ 1000) : mRange1 m Γ = some ((rngI x).map PyData.int, Γ') := by
  have h9 : -4611686018427387904 ≤ x ∧ x < 4611686018427387904 := by omega
  simp [h, h9, rngD_eq]
theorem rngI_nat (n : Nat) : rngI (n : Int) = castN (List.range n) := rfl
theorem rng_of {m : M} {Γ Γ' : DL.Env} {n : Nat} (h : m Γ = some (.d (.int n), Γ')) (hn : n ≤ 1000) : mRange1 m Γ = some ((List.range n).map (fun k : Nat => PyData.int k), Γ') := by
  rw [rng_x h (Int.natCast_nonneg n) (by omega), rngI_nat, castN, List.map_map]
  rfl
theorem e_lmissK {b : Bk} {r : List Int} {k : Nat} (hb : OkBk b) (hr : OkR b r) (hk : k < b.kinds.length) : F__law_misses [.d (encB b), .d (.int k), .d (tupD r)] = some (.d (tupD (missK b k r)), [.d (encB b), .d (.int k), .d (tupD r)]) := by
  obtain ⟨kd, h1, _, _, h2, h3, h5, h4, _⟩ := rd_ok hb hr hk
  rw [missK, h4]
  exact e_lmisses h1 h2 h5 (by omega)
def fitK (b : Bk) (r : List Int) (k : Nat) : Bool := decide (((missK b k r).length : Int) ≤ b.errs)
def toldN (b : Bk) (r : List Int) : List Nat := (List.range b.kinds.length).filter (fitK b r)
theorem mem_rng {n : Nat} {x : Nat} (h : x ∈ List.range n) : x < n := List.mem_range.mp h
theorem told_fm {b : Bk} {r : List Int} : ((List.range b.kinds.length).filterMap fun k => if fitK b r k then some (PyData.int (k : Int)) else none) = (castN (toldN b r)).map PyData.int := by
  rw [fm_filter (fitK b r) (fun k => PyData.int (k : Int))]
  unfold castN toldN
  rw [List.map_map]
  rfl
theorem e_ltold {b : Bk} {r : List Int} (hb : OkBk b) (hr : OkR b r) : F__law_told [.d (encB b), .d (tupD r)] = some (.d (tupD (castN (toldN b r))), [.d (encB b), .d (tupD r)]) := by
  have h7 := hb.2.2.1
  have e := lc_pure (mi := mRange1 (mUn (gSc1 lenD) (mBin gIx (mVar 0) (mC (.int 3))))) (g := setS 2) (mt := mB (mBin gLe (mUn (gSc1 lenD) (mCall 3 F__law_misses (mAc (mVar 0) (mAc (mVar 2) (mAc (mVar 1) mA0))))) (mBin gIx (mVar 0) (mC (.int 1))))) (me := mVar 2) (vs := [2]) (Γ := [.d (encB b), .d (tupD r), .no]) (ts := List.range b.kinds.length) (fun k : Nat => .int k) (fun k => if fitK b r k then some (.int (k : Int)) else none) (rng_of (by simp [encB]) (by omega)) rfl (by
    intro k hk
    have ef := e_lmissK hb hr (mem_rng hk)
    have el : lenD (tupD (missK b k r)) = some (.int (missK b k r).length) := by simp [tupD]
    have eb : L2.atI [PyData.str b.name, PyData.int b.errs, PyData.tuple (b.traits.map encT), PyData.tuple (b.kinds.map encK)] 1 = some (.int b.errs) := rfl
    have hz : encB b = (PyData.tuple [PyData.str b.name, PyData.int b.errs, PyData.tuple (b.traits.map encT), PyData.tuple (b.kinds.map encK)]) := rfl
    have hs : seqOf (encB b) = some (false, [PyData.str b.name, PyData.int b.errs, PyData.tuple (b.traits.map encT), PyData.tuple (b.kinds.map encK)]) := rfl
    cases h : fitK b r k <;> (simp only [fitK, decide_eq_false_iff_not, decide_eq_true_eq] at h; simp [lcStep, ev_CallX, ef, h, el, hs, gLe])) (by rw [List.length_range]; show _ ≤ 1000000; omega)
  rw [told_fm] at e
  refine ev_runx [.d (encB b), .d (tupD r), .no] ?_
  simp [e]
  rfl
theorem shp_tints (l : List Int) : SeqAt.shaped (tupD l) = true := by
  have h1 : ∀ l : List Int, PyData.canLayAll0 (l.map PyData.int) = true := fun l => by
    induction l with
    | nil => rfl
    | cons x r ih => rw [List.map_cons, PyData.canLayAll0, ih]; simp [PyData.canLay0]
  simp [tupD, SeqAt.shaped, PyData.canLay0, PyData.depth, h1, PySem.W.depth_ints]
@[simp] theorem ev_eqt0 (l : List Int) : eqD (tupD l) (.tuple []) = some (.bool l.isEmpty) := by
  unfold eqD
  have h : SeqAt.shaped (.tuple []) = true := shp_tints []
  rw [if_pos (by rw [shp_tints, h]; rfl)]
  cases l <;> simp [tupD, PyData.eqv, PyData.eqvAll]
@[simp] theorem ev_eqb0 (l : List Int) : eqD (.list (l.map PyData.int)) (.list []) = some (.bool l.isEmpty) := by
  unfold eqD
  have h : SeqAt.shaped (.list []) = true := shp_ints []
  rw [if_pos (by rw [shp_ints, h]; rfl)]
  cases l <;> simp [PyData.eqv, PyData.eqvAll]
theorem strange_r {F : FS} {B : Dat} {l r : List Int} (e : F [.d B, .d (tupD r)] = some (.d (tupD l), [.d B, .d (tupD r)])) :
    runF 2 2 [] (mRet 2 (mBin gEq (mCall 2 F (mAc (mVar 0) (mAc (mVar 1) mA0))) (mTup mD0))) [.d B, .d (tupD r)] = some (.d (.bool l.isEmpty), [.d B, .d (tupD r)]) :=
  ev_runx [.d B, .d (tupD r)] (ret_of (s := .d (.bool l.isEmpty)) (Γ1 := [.d B, .d (tupD r)]) (bin_of (call2 (ev_vd rfl) (ev_vd rfl) e rfl) (show mTup mD0 [.d B, .d (tupD r)] = some (.d (.tuple []), [.d B, .d (tupD r)]) by simp) (by simp [gEq, -List.isEmpty_iff])) rfl)
end K60


set_option Elab.async false
set_option linter.all false
set_option maxRecDepth 100000
set_option maxHeartbeats 4000000
namespace K60
open PySem DL
/-! ### groups -/
def groupsN (b : Bk) (lot : List Nat) : List Str := sortU (lot.map (groupK b))
theorem group_at {b : Bk} {k : Nat} (h : k < b.kinds.length) : ∃ kd, L2.atI (b.kinds.map encK) (k : Int) = some (encK kd) ∧ groupK b k = kd.2.1 := by
  have e : b.kinds[k]? = some b.kinds[k] := List.getElem?_eq_getElem h
  exact ⟨b.kinds[k], atI_nat (by rw [List.getElem?_map, e]; rfl), by simp [groupK, e]⟩
theorem cast_it (lot : List Nat) : (castN lot).map PyData.int = lot.map fun k : Nat => PyData.int k := by
  unfold castN
  rw [List.map_map]
  rfl
theorem e_lgroups {b : Bk} {lot : List Nat} (hl : ∀ k ∈ lot, k < b.kinds.length) (hn : lot.length < 64) : F__law_groups [.d (encB b), .d (tupD (castN lot))] = some (.own (.lst ((groupsN b lot).map PyData.str)), [.d (encB b), .d (tupD (castN lot))]) := by
  have e := lc_pure (mi := mSeqI (mVar 1)) (g := setS 2) (mt := mYes) (me := mBin gIx (mBin gIx (mBin gIx (mVar 0) (mC (.int 3))) (mVar 2)) (mC (.int 1))) (vs := [2]) (Γ := [.d (encB b), .d (tupD (castN lot)), .no]) (ts := lot) (fun k : Nat => .int k) (fun k => some (.str (groupK b k))) (by simp [tupD, cast_it]) rfl (by
    intro k hk
    obtain ⟨kd, h1, h2⟩ := group_at (hl k hk)
    rw [h2]
    simp [lcStep, encB, h1, encK]) (by show _ ≤ 1000000; omega)
  have ef : lot.filterMap (fun k => some (PyData.str (groupK b k))) = (lot.map (groupK b)).map PyData.str := by
    rw [List.filterMap_eq_map', List.map_map]
    rfl
  rw [ef] at e
  exact ev_runx [.d (encB b), .d (tupD (castN lot)), .no] (ret_of (sortSet_of e (by rw [List.length_map]; exact hn)) rfl)
/-! ### the one member -/
def oneD : List Dat → Dat
  | [x] => x
  | _ => .none
theorem one_t {Γ : DL.Env} {i : Nat} {l : List Dat} (h : Γ[i]? = some (.d (.tuple l))) : mIf (mB (mBin gEq (mUn (gSc1 lenD) (mVar i)) (mC (.int 1)))) (mBin gIx (mVar i) (mC (.int 0))) (mC .none) Γ = some (.d (oneD l), Γ) := by
  match l with
  | [] => simp [h, gEq, oneD]
  | [x] => simp [h, gEq, oneD]
  | x :: y :: r =>
    have h2 : ¬ ((r.length : Int) + 1 + 1 = 1) := by omega
    simp [h, gEq, oneD, h2]
theorem one_o {Γ : DL.Env} {i : Nat} {l : List Dat} (h : Γ[i]? = some (.own (.lst l))) : mIf (mB (mBin gEq (mUn (gSc1 lenD) (mVar i)) (mC (.int 1)))) (mBin gIx (mVar i) (mC (.int 0))) (mC .none) Γ = some (.d (oneD l), Γ) := by
  match l with
  | [] => simp [h, gEq, oneD]
  | [x] => simp [h, gEq, oneD]
  | x :: y :: r =>
    have h2 : ¬ ((r.length : Int) + 1 + 1 = 1) := by omega
    simp [h, gEq, oneD, h2]
theorem told_lt {b : Bk} {r : List Int} : ∀ k ∈ toldN b r, k < b.kinds.length := fun k hk => List.mem_range.mp (List.mem_filter.mp hk).1
theorem told_len {b : Bk} {r : List Int} : (toldN b r).length ≤ b.kinds.length := by
  have := List.length_filter_le (fitK b r) (List.range b.kinds.length)
  rw [List.length_range] at this
  exact this
theorem sure_r {F : FS} {B R : Dat} {l : List Dat} (e : F [.d B, .d R] = some (.d (.tuple l), [.d B, .d R])) :
    runF 2 3 [2] (mSeq (mSet (setS 2) (mCall 2 F (mAc (mVar 0) (mAc (mVar 1) mA0)))) (mRet 2 (mIf (mB (mBin gEq (mUn (gSc1 lenD) (mVar 2)) (mC (.int 1)))) (mBin gIx (mVar 2) (mC (.int 0))) (mC .none)))) [.d B, .d R] = some (.d (oneD l), [.d B, .d R]) :=
  ev_runx [.d B, .d R, .d (.tuple l)] (seq_nx (set_of (call2 (ev_vd rfl) (ev_vd rfl) e rfl) rfl) (ret_of (one_t rfl) rfl))
theorem sureg_r {F G : FS} {B R L : Dat} {l : List Dat} (e0 : G [.d B, .d R] = some (.d L, [.d B, .d R])) (e : F [.d B, .d L] = some (.d (.tuple l), [.d B, .d L])) :
    runF 2 3 [2] (mSeq (mSet (setS 2) (mCall 2 F (mAc (mVar 0) (mAc (mCall 2 G (mAc (mVar 0) (mAc (mVar 1) mA0))) mA0)))) (mRet 2 (mIf (mB (mBin gEq (mUn (gSc1 lenD) (mVar 2)) (mC (.int 1)))) (mBin gIx (mVar 2) (mC (.int 0))) (mC .none)))) [.d B, .d R] = some (.d (oneD l), [.d B, .d R]) :=
  ev_runx [.d B, .d R, .d (.tuple l)] (seq_nx (set_of (call2 (ev_vd rfl) (call2 (ev_vd rfl) (ev_vd rfl) e0 rfl) e rfl) rfl) (ret_of (one_t rfl) rfl))
/-! ### loops that may be left -/
theorem forL_find {α : Type} {g : MG} {mb : MS} (enc : α → Dat) (P : DL.Env → Prop) (s : DL.Slot) (c : α → Bool) : ∀ {ts : List α} {Γ : DL.Env}, P Γ → (∀ t ∈ ts, ∀ Γ, P Γ → ∃ Γ', P Γ' ∧ forStep g mb (enc t) Γ = some (if c t then .ret s else .nx, Γ')) →
    ∃ Γ', P Γ' ∧ forL g mb (ts.map enc) Γ = some (if ts.any c then .ret s else .nx, Γ')
  | [], Γ, hP, _ => ⟨Γ, hP, by simp [forL]⟩
  | t :: ts, Γ, hP, h => by
    obtain ⟨Γ1, hP1, e1⟩ := h t (by simp) Γ hP
    unfold forStep at e1
    rw [List.map_cons, forL]
    cases hg : g (.d (enc t)) Γ with
    | none => rw [hg] at e1; cases e1
    | some Γ3 =>
      rw [hg] at e1
      simp only [Option.bind_some] at e1 ⊢
      rw [e1]
      cases hc : c t with
      | true => exact ⟨Γ1, hP1, by simp [hc]⟩
      | false =>
        obtain ⟨Γ2, hP2, e2⟩ := forL_find enc P s c (ts := ts) hP1 fun t ht => h t (List.mem_cons_of_mem _ ht)
        exact ⟨Γ2, hP2, by simpa [hc] using e2⟩
/-! ### what can have been read -/
def encP (q : Int × Int) : Dat := .tuple [.int q.1, .int q.2]
theorem zip_ints (r s : List Int) : zipL (r.map PyData.int) (s.map PyData.int) = (r.zip s).map encP := by
  unfold zipL
  rw [List.zip_map, List.map_map]
  rfl
def mis (r th : List Int) : Nat := ((r.zip th).filter fun q => decide (0 ≤ q.1) && decide (q.1 ≠ q.2)).length
theorem e_mis {b0 b1 : DL.Slot} {s4 : DL.Slot} {r th : List Int} (hr : r.length ≤ 1000) : mUn (gSc1 lenD) (mLc (mZip (mVar 2) (mVar 3)) (setT 2 (setC (setS 5) (setC (setS 6) setN))) (mAndT (mB (mBin gGe (mVar 5) (mC (.int 0)))) (mB (mBin gNe (mVar 5) (mVar 6)))) (mC (.int 1)) [5, 6]) [b0, b1, .d (tupD r), .d (tupD th), s4, .no, .no] = some (.d (.int (mis r th)), [b0, b1, .d (tupD r), .d (tupD th), s4, .no, .no]) := by
  have e := lc_pure (mi := mZip (mVar 2) (mVar 3)) (g := setT 2 (setC (setS 5) (setC (setS 6) setN))) (mt := mAndT (mB (mBin gGe (mVar 5) (mC (.int 0)))) (mB (mBin gNe (mVar 5) (mVar 6)))) (me := mC (.int 1)) (vs := [5, 6]) (Γ := [b0, b1, .d (tupD r), .d (tupD th), s4, .no, .no]) (ts := r.zip th) encP (fun q => if (decide (0 ≤ q.1) && decide (q.1 ≠ q.2)) = true then some (.int 1) else none) (by simp [tupD, zip_ints]) rfl (by
    rintro ⟨x, y⟩ _
    by_cases h1 : 0 ≤ x <;> by_cases h2 : x = y <;> simp [lcStep, encP, gGe, gNe, h1, h2]) (by rw [List.length_zip]; show _ ≤ 1000000; omega)
  rw [fm_filter] at e
  refine un_of e ?_
  simp [mis]
theorem rows_mem {cols : List (List Int)} {row : List Int} : row ∈ rowsI cols ↔ PySem.W.EachIs (fun x c => x ∈ c) row cols := by
  have gen : ∀ (cols fd : List (List Int)) (row : List Int), row ∈ cols.foldl addCol fd ↔ ∃ p ∈ fd, ∃ s, row = p ++ s ∧ PySem.W.EachIs (fun x c => x ∈ c) s cols := fun cols => by
    induction cols with
    | nil =>
      intro fd row
      constructor
      · exact fun h => ⟨row, h, [], by simp, .nil⟩
      · rintro ⟨p, hp, s, rfl, hs⟩
        cases hs
        simpa using hp
    | cons c cols ih =>
      intro fd row
      rw [List.foldl_cons, ih]
      constructor
      · rintro ⟨p, hp, s, rfl, hs⟩
        unfold addCol at hp
        obtain ⟨p0, hp0, hp⟩ := List.mem_flatMap.mp hp
        obtain ⟨x, hx, rfl⟩ := List.mem_map.mp hp
        exact ⟨p0, hp0, x :: s, by simp, .cons hx hs⟩
      · rintro ⟨p, hp, s, rfl, hs⟩
        cases hs with
        | @cons x _ s _ hx hs =>
          exact ⟨p ++ [x], List.mem_flatMap.mpr ⟨p, hp, List.mem_map.mpr ⟨x, hx, rfl⟩⟩, s, by simp, hs⟩
  unfold rowsI
  rw [gen]
  constructor
  · rintro ⟨p, hp, s, rfl, hs⟩
    rw [List.mem_singleton.mp hp]
    exact hs
  · exact fun h => ⟨[], by simp, row, rfl, h⟩
/-- how often a reading misses shows -/
def missC : List (List Int) → List Int → Nat
  | c :: cs, x :: r => (if x ≠ -1 ∧ x ∉ c then 1 else 0) + missC cs r
  | _, _ => 0
theorem missI_len {shows : List (List Int)} {r : List Int} (hl : r.length = shows.length) : (missI shows r).length = missC shows r := by
  have gen : ∀ (r : List Int) (sh pre : List (List Int)), r.length = sh.length → ((r.zipIdx pre.length).filter fun q => q.1 != -1 && !(((pre ++ sh)[q.2]?).getD []).contains q.1).length = missC sh r := fun r => by
    induction r with
    | nil => intro sh pre h; cases sh <;> simp [missC]
    | cons x r ih =>
      intro sh pre h
      cases sh with
      | nil => cases h
      | cons c sh =>
        have h2 := ih sh (pre ++ [c]) (by simpa using h)
        rw [List.length_append, List.length_singleton, List.append_assoc, List.singleton_append] at h2
        rw [List.zipIdx_cons, List.filter_cons, missC]
        have e : (((pre ++ c :: sh)[pre.length]?).getD []) = c := by simp
        simp only [e]
        by_cases h3 : x = -1
        · rw [if_neg (by simp [h3]), if_neg (by simp [h3]), h2]; omega
        · by_cases h4 : x ∈ c
          · rw [if_neg (by simp [h4]), if_neg (by simp [h4]), h2]; omega
          · rw [if_pos (by simp [h3, h4]), if_pos ⟨h3, h4⟩, List.length_cons, h2]; omega
  have := gen r shows [] hl
  unfold missI idxs
  rw [List.length_map]
  simpa using this
theorem mis_cons {x y : Int} {r th : List Int} : mis (x :: r) (y :: th) = (if 0 ≤ x ∧ x ≠ y then 1 else 0) + mis r th := by
  unfold mis
  rw [List.zip_cons_cons, List.filter_cons]
  by_cases h : 0 ≤ x ∧ x ≠ y
  · rw [if_pos (by simp [h]), if_pos h, List.length_cons]; omega
  · rw [if_neg (by simpa using h), if_neg h]; omega
theorem mis_ge {th : List Int} {sh : List (List Int)} (h : PySem.W.EachIs (fun x c => x ∈ c) th sh) : ∀ {r : List Int}, r.length = sh.length → (∀ x ∈ r, -1 ≤ x) → missC sh r ≤ mis r th := by
  induction h with
  | nil => intro r hl _; cases r with
    | nil => simp [missC]
    | cons _ _ => cases hl
  | @cons y c th sh hy _ ih =>
    intro r hl hr
    cases r with
    | nil => cases hl
    | cons x r =>
      have h1 := ih (r := r) (by simpa using hl) fun z hz => hr z (List.mem_cons_of_mem _ hz)
      have h2 := hr x (by simp)
      rw [missC, mis_cons]
      by_cases h3 : x ≠ -1 ∧ x ∉ c
      · have h4 : 0 ≤ x ∧ x ≠ y := ⟨by have := h3.1; omega, fun e => h3.2 (e ▸ hy)⟩
        rw [if_pos h3, if_pos h4]; omega
      · rw [if_neg h3]; omega
theorem mis_ex {sh : List (List Int)} : ∀ {r : List Int}, (∀ c ∈ sh, c ≠ []) → r.length = sh.length → ∃ th, PySem.W.EachIs (fun x c => x ∈ c) th sh ∧ mis r th ≤ missC sh r := by
  induction sh with
  | nil => intro r _ hl; cases r with
    | nil => exact ⟨[], .nil, by simp [mis]⟩
    | cons _ _ => cases hl
  | cons c sh ih =>
    intro r hc hl
    cases r with
    | nil => cases hl
    | cons x r =>
      obtain ⟨th, h1, h2⟩ := ih (r := r) (fun c hc' => hc c (List.mem_cons_of_mem _ hc')) (by simpa using hl)
      by_cases h : x ∈ c
      · refine ⟨x :: th, .cons h h1, ?_⟩
        rw [mis_cons, missC, if_neg (fun z => z.2 rfl)]
        omega
      · obtain ⟨y, hy⟩ := List.exists_mem_of_ne_nil c (hc c (by simp))
        refine ⟨y :: th, .cons hy h1, ?_⟩
        rw [mis_cons, missC]
        by_cases h3 : 0 ≤ x ∧ x ≠ y
        · rw [if_pos h3, if_pos ⟨by omega, h⟩]; omega
        · rw [if_neg h3]; omega
theorem can_eq {b : Bk} {r : List Int} {k : Nat} (hb : OkBk b) (hr : OkR b r) (hk : k < b.kinds.length) : ((rowsI (showsK b k)).any fun th => decide ((mis r th : Int) ≤ b.errs)) = fitK b r k := by
  obtain ⟨kd, h1, h2, h3, h4, h5, h6, h7, _⟩ := rd_ok hb hr hk
  have hn : ∀ c ∈ showsK b k, c ≠ [] := fun c hc => by
    rw [h7] at hc
    obtain ⟨_, _, q⟩ := each_mem h3.1 hc
    exact q.1
  unfold fitK missK
  rw [missI_len (by rw [h7]; exact h4)]
  by_cases hq : ((missC (showsK b k) r : Nat) : Int) ≤ b.errs
  · rw [decide_eq_true hq, List.any_eq_true]
    obtain ⟨th, q1, q2⟩ := mis_ex (r := r) hn (by rw [h7]; exact h4)
    exact ⟨th, rows_mem.mpr q1, decide_eq_true (by omega)⟩
  · rw [decide_eq_false hq, List.any_eq_false]
    intro th hth
    have := mis_ge (rows_mem.mp hth) (r := r) (by rw [h7]; exact h4) h6
    simp only [decide_eq_true_eq]
    omega
end K60


set_option Elab.async false
set_option linter.all false
set_option maxRecDepth 100000
set_option maxHeartbeats 4000000
namespace K60
open PySem DL
/-! ### is it a reading -/
def wI (a c : Int) : Dat → Bool
  | .int x => decide (a ≤ x) && decide (x ≤ c)
  | _ => false
def intB (x : Dat) : Bool := isTy .int x && !isTy .bool x
theorem intB_eq (x : Dat) : intB x = match x with | .int _ => true | _ => false := by cases x <;> rfl
def isRd (b : Bk) : Dat → Bool
  | .tuple l => decide (l.length = b.traits.length) && (b.traits.zip l).all fun q => wI (-1) q.1.2.1 q.2
  | _ => false
def isTupN (n : Nat) : Dat → Bool
  | .tuple l => decide (l.length = n)
  | _ => false
def encZ (q : (Str × Int × Int) × Dat) : Dat := .tuple [encT q.1, q.2]
theorem zip_tr (ts : List (Str × Int × Int)) (l : List Dat) : zipL (ts.map encT) l = (ts.zip l).map encZ := by
  unfold zipL
  rw [List.zip_map_left, List.map_map]
  rfl
theorem allD_map (l : List Bool) : allD (.list (l.map PyData.bool)) = some (.bool (l.all id)) := by
  letI : TabsC := ⟨[]⟩
  show (boolsOf (l.map PyData.bool)).map _ = _
  rw [boolsOf_map]
  rfl
theorem fm_one {α : Type} (p : α → Bool) (l : List α) : l.filterMap (fun x => if p x then some (PyData.int 1) else none) = ((l.filter p).map fun _ => (1 : Int)).map PyData.int := by
  rw [fm_filter p (fun _ => PyData.int 1), List.map_map]
  rfl
theorem wI_not (x : Dat) (a c : Int) : wI a c x = (intB x && wI a c x) := by cases x <;> simp [wI, intB_eq]
end K60


set_option Elab.async false
set_option linter.all false
set_option maxRecDepth 100000
set_option maxHeartbeats 4000000
namespace K60
open PySem DL
/-! ### drawn values -/
theorem e_reading {β : Bag} {b : Bk} (h : OkBag β) (hb : OkBk b) : ∃ r β', F__law_reading [.own (encBag β), .d (encB b)] = some (.d (tupD r), [.own (encBag β'), .d (encB b)]) ∧ OkBag β' ∧ OkR b r := by
  have h4 := hb.1.2.1
  obtain ⟨os, Γ', e2, ⟨β2, hb2, rfl⟩, hR⟩ := lc_inv (mi := mSeqI (mBin gIx (mVar 1) (mC (.int 2)))) (g := setT 3 (setC (setS 2) (setC (setS 3) (setC (setS 4) setN)))) (mt := mYes) (me := mBin gSub (mCall 2 F__law_take (mAc (mVar 0) (mAc (mBin gAdd (mVar 3) (mC (.int 2))) mA0))) (mC (.int 1))) (vs := [2, 3, 4])
    (Γ := [.own (encBag β), .d (encB b), .no, .no, .no]) (Γ0 := [.own (encBag β), .d (encB b), .no, .no, .no]) (ts := b.traits) encT
    (fun Γ => ∃ β', OkBag β' ∧ Γ = [.own (encBag β'), .d (encB b), .no, .no, .no]) (fun t o => ∃ x : Int, o = some (.int x) ∧ (-1 ≤ x ∧ x ≤ t.2.1))
    (by simp [encB]) rfl ⟨β, h, rfl⟩ (by
      rintro t hm _ ⟨β1, hb1, rfl⟩
      have q := hb.1.2.2 t hm
      obtain ⟨v, β2, e, h0, h1, hb2⟩ := e_take (n := t.2.1 + 2) hb1 (by omega) (by omega)
      exact ⟨some (.int (v - 1)), [.own (encBag β2), .d (encB b), .no, .no, .no], by simp [lcStep, encT, ev_CallX, e], ⟨β2, hb2, rfl⟩, v - 1, rfl, by omega, by omega⟩) (by show _ ≤ 1000000; omega)
  obtain ⟨r, hr1, hr2⟩ := gather hR
  rw [hr1] at e2
  exact ⟨r, β2, ev_runx [.own (encBag β2), .d (encB b), .no, .no, .no] (ret_of (un_of e2 rfl) rfl), hb2, hr2⟩
theorem ne_tup {l : List Int} (h : l ≠ []) : neD (tupD l) (.tuple []) = some (.bool true) := by
  unfold neD
  have hs : SeqAt.shaped (.tuple []) = true := shp_tints []
  rw [if_pos (by rw [shp_tints, hs]; rfl)]
  cases l with
  | nil => exact absurd rfl h
  | cons x r => simp [tupD, PyData.eqv, PyData.eqvAll]
end K60


set_option Elab.async false
set_option linter.all false
set_option maxRecDepth 100000
set_option maxHeartbeats 4000000
namespace K60
open PySem DL
/-! ### held against each other -/
theorem okAll_eq (l : List Dat) : okAll l = l.all okA := by
  induction l with
  | nil => rfl
  | cons d r ih => rw [okAll, ih, List.all_cons]
theorem okA_list (l : List Dat) : okA (.list l) = l.all okA := okAll_eq l
theorem okA_tuple (l : List Dat) : okA (.tuple l) = l.all okA := okAll_eq l
theorem okA_tupD (l : List Int) : okA (tupD l) = true := by
  unfold tupD
  rw [okA_tuple, List.all_map]
  exact List.all_eq_true.mpr fun x _ => rfl
theorem okA_map {α : Type} {f : α → Dat} {l : List α} (h : ∀ x ∈ l, okA (f x) = true) : (l.map f).all okA = true := by
  rw [List.all_map]
  exact List.all_eq_true.mpr h
theorem szA_list (l : List Dat) : szA (.list l) = szAll l + 1 := rfl
theorem szA_tuple (l : List Dat) : szA (.tuple l) = szAll l + 1 := rfl
theorem szAll_map {α : Type} {f : α → Dat} {c : Nat} : ∀ {l : List α}, (∀ x ∈ l, szA (f x) ≤ c) → szAll (l.map f) ≤ l.length * c
  | [], _ => Nat.zero_le _
  | x :: r, h => by
    have := szAll_map (l := r) (fun x hx => h x (List.mem_cons_of_mem _ hx))
    have h1 := h x (by simp)
    rw [List.map_cons, szAll, List.length_cons, Nat.add_mul]
    omega
theorem szA_tupD (l : List Int) : szA (tupD l) = l.length + 1 := by
  unfold tupD
  rw [szA_tuple]
  congr 1
  induction l with
  | nil => rfl
  | cons x r ih => rw [List.map_cons, szAll, ih, List.length_cons, show szA (.int x) = 1 from rfl]; omega
theorem szA_bool (c : Bool) : szA (.bool c) = 1 := rfl
theorem szA_int (c : Int) : szA (.int c) = 1 := rfl
theorem szA_none : szA .none = 1 := rfl
theorem szA_str (c : Str) : szA (.str c) = 1 := rfl
/-- two that are the same -/
theorem alike_of {a b : M} {Γ Γ1 Γ2 Γ3 : DL.Env} {s t s' t' : DL.Slot} {d : Dat} (h1 : a Γ = some (s, Γ1)) (h2 : b Γ1 = some (t, Γ2)) (ha : argsS Γ2 [s, t] = some [s', t']) (hs : IsS s' d) (ht : IsS t' d) (ho : okA d = true) (hz : szA d ≤ 800000)
    (h3 : backS Γ2 [s, t] [.d d, .d d] = Γ3 := by rfl) (hb : (borIx [s, t]).Nodup := by simp) : mCall 2 F__law_alike (mAc a (mAc b mA0)) Γ = some (.d (.bool true), Γ3) :=
  call_of (ac_of h1 (ac_of h2 rfl)) ha (e_alike hs ht ho hz) h3 rfl rfl hb rfl
theorem alike_no {a b : M} {x : MS} {Γ Γ1 Γ2 Γ3 : DL.Env} {s t s' t' : DL.Slot} {d : Dat} (h1 : a Γ = some (s, Γ1)) (h2 : b Γ1 = some (t, Γ2)) (ha : argsS Γ2 [s, t] = some [s', t']) (hs : IsS s' d) (ht : IsS t' d) (ho : okA d = true) (hz : szA d ≤ 800000)
    (h3 : backS Γ2 [s, t] [.d d, .d d] = Γ3 := by rfl) (hb : (borIx [s, t]).Nodup := by simp) : mIfS (mNotT (mTru (mCall 2 F__law_alike (mAc a (mAc b mA0))))) x mNext Γ = some (.nx, Γ3) :=
  if_no (not_tru (alike_of h1 h2 ha hs ht ho hz h3 hb))
/-! ### displays -/
section
variable {Γ Γ1 Γ2 Γ3 : DL.Env}
theorem dc_d {m : M} {r : MD} {d : Dat} {l : List Dat} (h1 : m Γ = some (.d d, Γ1)) (h2 : r Γ1 = some (l, Γ2)) : mDc m r Γ = some (d :: l, Γ2) := by
  unfold mDc
  rw [h1]
  simp only [Option.bind_some, ev_setd]
  rw [h2]
  rfl
theorem dc_o {m : M} {r : MD} {o : Own} {l : List Dat} (h1 : m Γ = some (.own o, Γ1)) (h2 : r Γ1 = some (l, Γ2)) : mDc m r Γ = some (o.dat :: l, Γ2) := by
  unfold mDc
  rw [h1]
  simp only [Option.bind_some, ev_seto]
  rw [h2]
  rfl
theorem lst_of {md : MD} {l : List Dat} (h : md Γ = some (l, Γ1)) (hl : l.length ≤ 1000000) : mLst md Γ = some (.own (.lst l), Γ1) := by
  unfold mLst
  rw [h]
  simp only [Option.bind_some, lim_eq]
  rw [if_pos hl]
theorem tup_of {md : MD} {l : List Dat} (h : md Γ = some (l, Γ1)) (hl : l.length ≤ 1000000) : mTup md Γ = some (.d (.tuple l), Γ1) := by
  unfold mTup
  rw [h]
  simp only [Option.bind_some, lim_eq]
  rw [if_pos hl]
end
/-! ### indexes -/
theorem zipIdx_eq (r : List Int) : r.zipIdx = (List.range r.length).map fun i => ((r[i]?).getD 0, i) := by
  refine List.ext_getElem (by simp) fun i h1 h2 => ?_
  have h3 : i < r.length := by simpa using h1
  simp [h3]
theorem idxs_eq (p : Int × Nat → Bool) (r : List Int) : idxs p r = castN ((List.range r.length).filter fun i => p ((r[i]?).getD 0, i)) := by
  unfold idxs castN
  rw [zipIdx_eq, List.filter_map, List.map_map]
  rfl
theorem castN_mem {l : List Nat} {i : Nat} : ((i : Int) ∈ castN l) ↔ i ∈ l := by
  unfold castN
  rw [List.mem_map]
  constructor
  · rintro ⟨j, hj, e⟩
    have : j = i := by omega
    exact this ▸ hj
  · exact fun h => ⟨i, h, rfl⟩
theorem rd_get {b : Bk} {r : List Int} (hr : OkR b r) {i : Nat} (hi : i < r.length) : -1 ≤ (r[i]?).getD 0 := by
  rw [List.getElem?_eq_getElem hi]
  obtain ⟨t, _, q⟩ := each_mem hr (List.getElem_mem hi)
  exact q.1
theorem unread_eq {b : Bk} {r : List Int} (hr : OkR b r) : idxs (fun q => decide (q.1 < 0)) r = idxs (fun q => q.1 == -1) r := by
  rw [idxs_eq, idxs_eq]
  congr 1
  refine List.filter_congr fun i hi => ?_
  have := rd_get hr (List.mem_range.mp hi)
  by_cases h : (r[i]?).getD 0 = -1
  · simp [h]
  · have h2 : ¬ (r[i]?).getD 0 < 0 := by omega
    simp [h, h2]
theorem read_eq (r : List Int) : ((List.range r.length).filter fun i : Nat => !(idxs (fun q => q.1 == -1) r).contains (i : Int)) = (List.range r.length).filter fun i : Nat => (r[i]?).getD 0 != -1 := by
  refine List.filter_congr fun i hi => ?_
  rw [idxs_eq]
  have h : ((i : Int) ∈ castN ((List.range r.length).filter fun i => (r[i]?).getD 0 == -1)) ↔ (r[i]?).getD 0 = -1 := by
    rw [castN_mem, List.mem_filter]
    simp only [hi, true_and, beq_iff_eq]
  by_cases q : (r[i]?).getD 0 = -1
  · rw [List.contains_iff_mem.mpr (h.mpr q)]
    simp [q]
  · have : ¬ ((i : Int) ∈ castN ((List.range r.length).filter fun i => (r[i]?).getD 0 == -1)) := fun z => q (h.mp z)
    rw [show (castN ((List.range r.length).filter fun i => (r[i]?).getD 0 == -1)).contains (i : Int) = false from by simpa using this]
    simp [q]
@[simp] theorem ev_inIl (neg : Bool) (x : Int) (r : List Int) : inD neg (.int x) (.list (r.map PyData.int)) = some (.bool (if neg then !r.contains x else r.contains x)) := ev_inI neg x r
/-! ### what goes on -/
def goesI (r o : List Int) : Bool := (r.zip o).all fun q => q.1 == -1 || q.1 == q.2
theorem goes_le {sh : List (List Int)} : ∀ {r o : List Int}, r.length = sh.length → o.length = sh.length → goesI r o = true → missC sh r ≤ missC sh o := by
  induction sh with
  | nil => intro r o _ _ _; cases r <;> simp [missC]
  | cons c sh ih =>
    intro r o h1 h2 h3
    cases r with
    | nil => cases h1
    | cons x r =>
      cases o with
      | nil => cases h2
      | cons y o =>
        unfold goesI at h3 ih
        rw [List.zip_cons_cons, List.all_cons, Bool.and_eq_true] at h3
        have := ih (r := r) (o := o) (by simpa using h1) (by simpa using h2) h3.2
        have h4 := h3.1
        simp only [Bool.or_eq_true, beq_iff_eq] at h4
        rw [missC, missC]
        rcases h4 with h4 | h4
        · rw [if_neg (fun z => z.1 h4)]; omega
        · subst h4; omega
theorem goes_told {b : Bk} {r o : List Int} (hb : OkBk b) (hr : OkR b r) (ho : OkR b o) (hg : goesI r o = true) : ∀ k ∈ toldN b o, k ∈ toldN b r := by
  intro k hk
  unfold toldN at hk ⊢
  rw [List.mem_filter] at hk ⊢
  refine ⟨hk.1, ?_⟩
  have hlt := List.mem_range.mp hk.1
  obtain ⟨_, _, _, _, h4, _, _, h7, _⟩ := rd_ok hb hr hlt
  obtain ⟨_, _, _, _, h4', _, _, h7', _⟩ := rd_ok hb ho hlt
  have l1 : r.length = (showsK b k).length := by rw [h7]; exact h4
  have l2 : o.length = (showsK b k).length := by rw [h7']; exact h4'
  have h := hk.2
  unfold fitK missK at h ⊢
  rw [missI_len l2, decide_eq_true_eq] at h
  rw [missI_len l1, decide_eq_true_eq]
  have := goes_le l1 l2 hg
  omega
def wentI (r o : List Int) : List (Int × Int) := (r.zip o).filter fun q => decide (0 ≤ q.1) && decide (q.1 ≠ q.2)
theorem went_eq {b : Bk} {r o : List Int} (hr : OkR b r) : (wentI r o).isEmpty = goesI r o := by
  have h : ∀ x ∈ r, -1 ≤ x := fun x hx => by
    obtain ⟨t, _, q⟩ := each_mem hr hx
    exact q.1
  clear hr
  unfold wentI goesI
  induction r generalizing o with
  | nil => rfl
  | cons x r ih =>
    cases o with
    | nil => rfl
    | cons y o =>
      have i := ih (o := o) fun z hz => h z (List.mem_cons_of_mem _ hz)
      have hx := h x (by simp)
      rw [List.zip_cons_cons, List.filter_cons, List.all_cons, ← i]
      by_cases h1 : x = -1
      · subst h1
        simp
      · have h0 : 0 ≤ x := by omega
        by_cases h2 : x = y
        · subst h2; simp
        · have h3 : ¬ (x == -1 || x == y) = true := by simp [h1, h2]
          simp [h0, h1, h2]
theorem putAt_ok {b : Bk} {r : List Int} {i : Nat} {t : Str × Int × Int} {x : Int} (hr : OkR b r) (ht : b.traits[i]? = some t) (h0 : -1 ≤ x) (h1 : x ≤ t.2.1) : OkR b (putAt r i x) := each_putR hr ht ⟨h0, h1⟩
theorem unr_empty (r : List Int) : (idxs (fun q => q.1 == -1) r).isEmpty = !r.contains (-1) := by
  rw [idxs_eq]
  by_cases h : (-1 : Int) ∈ r
  · obtain ⟨i, hi, e⟩ := List.getElem_of_mem h
    rw [List.contains_iff_mem.mpr h]
    have : i ∈ (List.range r.length).filter fun i => (r[i]?).getD 0 == -1 := List.mem_filter.mpr ⟨List.mem_range.mpr hi, by rw [List.getElem?_eq_getElem hi, e]; rfl⟩
    cases e2 : (List.range r.length).filter fun i => (r[i]?).getD 0 == -1 with
    | nil => rw [e2] at this; cases this
    | cons _ _ => rfl
  · have : ((List.range r.length).filter fun i => (r[i]?).getD 0 == -1) = [] := List.filter_eq_nil_iff.mpr fun i hi z => h (by
      have hl := List.mem_range.mp hi
      rw [List.getElem?_eq_getElem hl] at z
      have z2 : r[i] = -1 := by simpa using z
      rw [← z2]
      exact List.getElem_mem hl)
    rw [this, show r.contains (-1) = false from by simpa using h]
    rfl
theorem read_map (r : List Int) : (((List.range r.length).filter fun i : Nat => !(idxs (fun q => q.1 == -1) r).contains (i : Int)).map fun i : Nat => PyData.int i) = (idxs (fun q => q.1 != -1) r).map PyData.int := by
  rw [read_eq, idxs_eq (fun q => q.1 != -1)]
  unfold castN
  rw [List.map_map]
  rfl
theorem isRd_ok {b : Bk} {r : List Int} (hr : OkR b r) : isRd b (tupD r) = true := by
  have hl := each_len hr
  have : ∀ (ts : List (Str × Int × Int)) (r : List Int), PySem.W.EachIs (fun t x => -1 ≤ x ∧ x ≤ t.2.1) ts r → ((ts.zip (r.map PyData.int)).all fun q => wI (-1) q.1.2.1 q.2) = true := fun ts r h => by
    induction h with
    | nil => rfl
    | cons q _ ih => rw [List.map_cons, List.zip_cons_cons, List.all_cons, ih]; simp [wI, q.1, q.2]
  show (decide ((r.map PyData.int).length = b.traits.length) && _) = true
  rw [this _ _ hr, List.length_map, decide_eq_true hl.symm]
  rfl
end K60


set_option Elab.async false
set_option linter.all false
set_option maxRecDepth 100000
set_option maxHeartbeats 4000000
namespace K60
open PySem DL
/-! ### the bag of a script -/
def absI (i : Int) : Int := if i < 0 then -i else i
theorem e_bag {ns : List Int} (h : ns.length ≤ 63) : ∃ β, F__law_bag [.d (.list (ns.map PyData.int))] = some (.own (encBag β), [.d (.list (ns.map PyData.int))]) ∧ OkBag β := by
  refine ⟨⟨0, 1234567891, 0, (ns.take 63).map absI⟩, ?_, Int.le_refl 0, Int.le_refl 0, by rw [List.length_map, List.length_take]; omega⟩
  have ht : (ns.map PyData.int).take 63 = (ns.take 63).map PyData.int := by rw [List.map_take]
  have hc : cutL (ns.map PyData.int) none (some 63) = (ns.take 63).map PyData.int := by rw [← ht]; exact cut_take (i := 63)
  have hl : ns.length ≤ 1000000 := by omega
  have e := lc_map (mi := mSeqI (mSl (mVar 0) mO0 (mO1 (mC (.int 63))))) (g := setS 1) (me := mUn (gSc1 absD) (mVar 1)) (vs := [1]) (Γ := [.d (.list (ns.map PyData.int)), .no]) (Γ0 := [.d (.list (ns.map PyData.int)), .no]) (ts := ns.take 63) PyData.int (fun x => .int (absI x)) (by simp [hc, hl]) rfl (fun x _ => by simp [lcStep, absI]) (by rw [List.length_take]; show _ ≤ 1000000; omega)
  refine ev_runx [.d (.list (ns.map PyData.int)), .no] (ret_of (lst_of (dc_d rfl (dc_d rfl (dc_d rfl (dc_o e rfl)))) (by simp)) ?_)
  simp [encBag, List.map_map, Function.comp_def]
/-! ### lots -/
def InLots (n : Int) (left : List Int) (s : List (List Int)) (Γ : DL.Env) : Prop :=
  (∃ s2, Γ = [.d (.int n), .own (.lst (s.map tupD)), s2, .no]) ∧ s.length * 2 ^ left.length ≤ 100 ∧ s ≠ [] ∧ (∀ l ∈ s, l.length + left.length ≤ 4) ∧ (∀ l ∈ s, ∀ x ∈ l, 0 ≤ x ∧ x < n) ∧ ∀ x ∈ left, 0 ≤ x ∧ x < n
/-! ### prices -/
def priceI (b : Bk) (lot : List Int) : Int := (lot.map fun x => ((b.traits[x.toNat]?).map (·.2.2)).getD 0).sum
theorem wholes_ok {b : Bk} (hb : OkTs b.traits) {row : List Int} (h : row ∈ wholesI b) : OkR b row := by
  unfold wholesI at h
  have h2 := rows_mem.mp h
  have gen : ∀ (ts : List (Str × Int × Int)) (row : List Int), PySem.W.EachIs (fun x c => x ∈ c) row (ts.map fun t => rngI (t.2.1 + 1)) → PySem.W.EachIs (fun t x => -1 ≤ x ∧ x ≤ t.2.1) ts row := fun ts => by
    induction ts with
    | nil => intro row h; cases h; exact .nil
    | cons t ts ih =>
      intro row h
      rw [List.map_cons] at h
      cases h with
      | cons q r =>
        have := rngI_mem.mp q
        exact .cons ⟨by omega, by omega⟩ (ih _ r)
  exact gen _ _ h2
theorem rows_ne {cols : List (List Int)} (h : ∀ c ∈ cols, c ≠ []) : rowsI cols ≠ [] := by
  have : ∃ row, PySem.W.EachIs (fun x c => x ∈ c) row cols := by
    induction cols with
    | nil => exact ⟨[], .nil⟩
    | cons c cols ih =>
      obtain ⟨row, hr⟩ := ih fun c hc => h c (List.mem_cons_of_mem _ hc)
      obtain ⟨x, hx⟩ := List.exists_mem_of_ne_nil c (h c (by simp))
      exact ⟨x :: row, .cons hx hr⟩
  obtain ⟨row, hr⟩ := this
  exact List.ne_nil_of_mem (rows_mem.mpr hr)
theorem wholes_ne {b : Bk} (hb : OkTs b.traits) : wholesI b ≠ [] := rows_ne fun c hc => by
  obtain ⟨t, ht, rfl⟩ := List.mem_map.mp hc
  have := hb.2.2 t ht
  intro z
  have := congrArg List.length z
  rw [rngI_len, List.length_nil] at this
  omega
theorem addCol_len {fd : List (List Int)} {c : List Int} : (addCol fd c).length = fd.length * c.length := flatMap_len
theorem rows_len {cols : List (List Int)} (h : ∀ c ∈ cols, c.length ≤ 3) : (rowsI cols).length ≤ 3 ^ cols.length := by
  have gen : ∀ (cols fd : List (List Int)), (∀ c ∈ cols, c.length ≤ 3) → (cols.foldl addCol fd).length ≤ fd.length * 3 ^ cols.length := fun cols => by
    induction cols with
    | nil => intro fd _; simp
    | cons c cols ih =>
      intro fd h
      rw [List.foldl_cons]
      refine Nat.le_trans (ih _ fun c hc => h c (List.mem_cons_of_mem _ hc)) ?_
      rw [addCol_len, List.length_cons, Nat.pow_succ, Nat.mul_comm (3 ^ cols.length) 3, ← Nat.mul_assoc]
      exact Nat.mul_le_mul_right _ (Nat.mul_le_mul_left _ (h c (by simp)))
  have := gen cols [[]] h
  simpa [rowsI] using this
theorem wholes_len {b : Bk} (hb : OkTs b.traits) : (wholesI b).length ≤ 81 := by
  have h := rows_len (cols := b.traits.map fun t => rngI (t.2.1 + 1)) fun c hc => by
    obtain ⟨t, ht, rfl⟩ := List.mem_map.mp hc
    have := hb.2.2 t ht
    exact rngI_le (by omega)
  have h2 : 3 ^ (b.traits.map fun t => rngI (t.2.1 + 1)).length ≤ 3 ^ 4 := Nat.pow_le_pow_right (by decide) (by rw [List.length_map]; exact hb.2.1)
  exact Nat.le_trans h h2
end K60


set_option Elab.async false
set_option linter.all false
set_option maxRecDepth 100000
set_option maxHeartbeats 4000000
namespace K60
open PySem DL
theorem e_nothing {b : Bk} (hb : OkTs b.traits) : F_nothing_read [.d (encB b)] = some (.d (tupD (List.replicate b.traits.length (-1))), [.d (encB b)]) := by
  obtain ⟨h2, h4, _⟩ := hb
  have h5 : (2 : Int) ≤ b.traits.length ∧ (b.traits.length : Int) ≤ 1000 := by omega
  refine ev_runx [.d (encB b)] ?_
  simp [encB, h5, flat_rep, tupD, h2]
/-! who shows a state -/
def hasS (kd : Str × Str × List (List Int)) (t : Nat) (s : Int) : Bool := ((kd.2.2[t]?).getD []).contains s
def showN (b : Bk) (t : Nat) (s : Int) : List Nat := (b.kinds.zipIdx.filter fun q => hasS q.1 t s).map (·.2)
def encQ (q : (Str × Str × List (List Int)) × Nat) : Dat := .tuple [.int q.2, encK q.1]
theorem enum_kinds (ks : List (Str × Str × List (List Int))) : enumL (ks.map encK) = ks.zipIdx.map encQ := by
  unfold enumL
  rw [List.zipIdx_map, List.map_map]
  rfl
theorem kd_at {b : Bk} (hb : OkBk b) {kd : Str × Str × List (List Int)} (hk : kd ∈ b.kinds) {t : Nat} (ht : t < b.traits.length) : ∃ l, kd.2.2[t]? = some l ∧ L2.atI (kd.2.2.map tupD) (t : Int) = some (tupD l) := by
  have hl := each_len (hb.2.2.2.1 kd hk).1
  have h3 : t < kd.2.2.length := by omega
  exact ⟨_, List.getElem?_eq_getElem h3, atI_nat (by rw [List.getElem?_map, List.getElem?_eq_getElem h3]; rfl)⟩
theorem mem_zip {α : Type} {l : List α} {q : α × Nat} (h : q ∈ l.zipIdx) : q.1 ∈ l ∧ l[q.2]? = some q.1 := by
  obtain ⟨x, i⟩ := q
  have := List.mem_zipIdx_iff_getElem?.mp h
  exact ⟨List.mem_of_getElem? this, this⟩
theorem e_showers {b : Bk} (hb : OkBk b) {t : Nat} (ht : t < b.traits.length) (s : Int) : F_showers [.d (encB b), .d (.int t), .d (.int s)] = some (.d (tupD (castN (showN b t s))), [.d (encB b), .d (.int t), .d (.int s)]) := by
  have h7 := hb.2.2.1
  have e := lc_filter (mi := mEnum (mBin gIx (mVar 0) (mC (.int 3)))) (g := setT 2 (setC (setS 3) (setC (setS 4) setN))) (mt := mB (mBin gIn (mVar 2) (mBin gIx (mBin gIx (mVar 4) (mC (.int 2))) (mVar 1)))) (me := mVar 3) (vs := [3, 4]) (Γ := [.d (encB b), .d (.int t), .d (.int s), .no, .no]) (Γ0 := [.d (encB b), .d (.int t), .d (.int s), .no, .no]) (ts := b.kinds.zipIdx) encQ (fun q => hasS q.1 t s) (fun q => .int (q.2 : Int)) (by simp [encB, enum_kinds]) rfl (by
    intro q hq
    obtain ⟨kd, i⟩ := q
    obtain ⟨l, h1, h2⟩ := kd_at hb (mem_zip hq).1 ht
    simp only at h1 h2
    cases hc : l.contains s <;> simp [lcStep, encQ, encK, h2, gIn, hasS, h1, hc, -List.contains_eq_mem]) (by rw [List.length_zipIdx]; show _ ≤ 1000000; omega)
  refine ev_runx [.d (encB b), .d (.int t), .d (.int s), .no, .no] ?_
  simp [e]
  simp [tupD, castN, showN, List.map_map, Function.comp_def]
/-! a row of misses, one trait on -/
def min2 (i j : Int) : Int := if j < i then j else i
def missR (b : Bk) (t : Nat) (s : Int) (row : Row) : Row := (row.zip b.kinds).map fun q => if hasS q.2 t s then q.1 else min2 (q.1 + 1) (b.errs + 1)
def encZK (q : Int × (Str × Str × List (List Int))) : Dat := .tuple [.int q.1, encK q.2]
theorem zip_kinds (r : Row) (ks : List (Str × Str × List (List Int))) : zipL (r.map PyData.int) (ks.map encK) = (r.zip ks).map encZK := by
  unfold zipL
  rw [List.zip_map, List.map_map]
  rfl
theorem foldl_snoc {α β : Type} (f : α → β) : ∀ (l : List α) (acc : List β), l.foldl (fun s q => s ++ [f q]) acc = acc ++ l.map f
  | [], acc => by simp
  | q :: l, acc => by rw [List.foldl_cons, foldl_snoc f l, List.map_cons]; simp
theorem e_missed {b : Bk} (hb : OkBk b) {t : Nat} (ht : t < b.traits.length) (s : Int) {row : Row} (hr : row.length ≤ 7) :
    F_missed [.d (encB b), .d (tupD row), .d (.int t), .d (.int s)] = some (.d (tupD (missR b t s row)), [.d (encB b), .d (tupD row), .d (.int t), .d (.int s)]) := by
  obtain ⟨Γ', e, ⟨s5, s6, rfl⟩, _⟩ := forL_rem (g := setT 2 (setC (setS 5) (setC (setS 6) setN))) (mb := mDrop (mApp 4 (mIf (mB (mBin gIn (mVar 3) (mBin gIx (mBin gIx (mVar 6) (mC (.int 2))) (mVar 2)))) (mVar 5) (mBin gMin2 (mBin gAdd (mVar 5) (mC (.int 1))) (mBin gAdd (mBin gIx (mVar 0) (mC (.int 1))) (mC (.int 1)))))))
    encZK (fun (left : List (Int × (Str × Str × List (List Int)))) (f : Row) Γ => (∃ s5 s6, Γ = [.d (encB b), .d (tupD row), .d (.int t), .d (.int s), .own (.lst (f.map PyData.int)), s5, s6]) ∧ f.length + left.length ≤ 100 ∧ ∀ q ∈ left, q.2 ∈ b.kinds) (fun f q => f ++ [if hasS q.2 t s then q.1 else min2 (q.1 + 1) (b.errs + 1)]) (by
      rintro ⟨x, kd⟩ r f _ ⟨⟨s5, s6, rfl⟩, hl, hk⟩
      obtain ⟨l, h1, h2⟩ := kd_at hb (hk _ List.mem_cons_self) ht
      simp only at h1 h2
      rw [List.length_cons] at hl
      have hf : f.length ≤ 999999 := by omega
      have hf2 : f.length < lim := by show _ < 1000000; omega
      refine ⟨_, ?_, ⟨.d (.int x), .d (encK kd), rfl⟩, by rw [List.length_append]; simp; omega, fun q hq => hk q (List.mem_cons_of_mem _ hq)⟩
      cases hc : l.contains s <;> simp [forStep, encZK, encK, encB, h2, gIn, hasS, h1, hc, gMin2, min2, hf, hf2, -List.contains_eq_mem]) (ts := row.zip b.kinds) (s := []) (Γ := [.d (encB b), .d (tupD row), .d (.int t), .d (.int s), .own (.lst []), .no, .no]) ⟨⟨_, _, rfl⟩, by
        rw [List.length_zip]; simp only [List.length_nil]; omega, fun q hq => (List.of_mem_zip hq).2⟩
  rw [foldl_snoc] at e
  refine ev_runx [.d (encB b), .d (tupD row), .d (.int t), .d (.int s), .own (.lst ((missR b t s row).map PyData.int)), s5, s6] ?_
  have ez : zipL (row.map PyData.int) (b.kinds.map encK) = (row.zip b.kinds).map encZK := zip_kinds _ _
  rw [← ez] at e
  simp only [encB, tupD] at e ⊢
  simp [e, missR]
/-! the kinds that a row lets -/
def lotR (b : Bk) (row : Row) : Row := (row.zipIdx.filter fun q => decide (q.1 ≤ b.errs)).map fun q => (q.2 : Int)
theorem e_lotrow {b : Bk} {row : Row} (hr : row.length ≤ 7) : F_lot_of_row [.d (encB b), .d (tupD row)] = some (.d (tupD (lotR b row)), [.d (encB b), .d (tupD row)]) := by
  have e := lc_filter (mi := mEnum (mVar 1)) (g := setT 2 (setC (setS 2) (setC (setS 3) setN))) (mt := mB (mBin gLe (mVar 3) (mBin gIx (mVar 0) (mC (.int 1))))) (me := mVar 2) (vs := [2, 3]) (Γ := [.d (encB b), .d (tupD row), .no, .no]) (Γ0 := [.d (encB b), .d (tupD row), .no, .no]) (ts := row.zipIdx) encE (fun q => decide (q.1 ≤ b.errs)) (fun q => .int (q.2 : Int)) (by simp [tupD, enumL_ints]) rfl (by
    intro q hq
    by_cases hc : q.1 ≤ b.errs <;> simp [lcStep, encE, encB, gLe, hc]) (by rw [List.length_zipIdx]; show _ ≤ 1000000; omega)
  refine ev_runx [.d (encB b), .d (tupD row), .no, .no] ?_
  simp [e]
  simp [tupD, lotR, List.map_map, Function.comp_def]
theorem e_traits {b : Bk} (hb : OkTs b.traits) : F_traits_of [.d (encB b)] = some (.own (.lst ((List.range b.traits.length).map fun i : Nat => PyData.int i)), [.d (encB b)]) := by
  obtain ⟨h2, h4, _⟩ := hb
  refine ev_runx [.d (encB b)] ?_
  have h5 : (b.traits.length : Int) ≤ 1000000 := by omega
  simp [encB, gListRg, h5, rangeD]
end K60

set_option Elab.async false
set_option linter.all false
set_option maxRecDepth 100000
set_option maxHeartbeats 4000000
namespace K60
open PySem DL
/-! states of one class -/
def mostI (b : Bk) (t : Nat) : Int := ((b.traits[t]?).map (·.2.1)).getD 0
def statesI (b : Bk) (t : Nat) : List Int := rngI (mostI b t + 1)
def clsF (b : Bk) (t : Nat) (acc : List (Row × List Int)) (s : Int) : List (Row × List Int) := appA acc (castN (showN b t s)) s
def clsI (b : Bk) (t : Nat) : List (Row × List Int) := (statesI b t).foldl (clsF b t) []
theorem most_le {b : Bk} (hb : OkBk b) {t : Nat} (ht : t < b.traits.length) : 1 ≤ mostI b t ∧ mostI b t ≤ 2 ∧ L2.atI (b.traits.map encT) (t : Int) = some (encT b.traits[t]) ∧ mostI b t = b.traits[t].2.1 := by
  have e : mostI b t = b.traits[t].2.1 := by unfold mostI; rw [List.getElem?_eq_getElem ht]; rfl
  have := hb.1.2.2 _ (List.getElem_mem ht)
  exact ⟨by omega, by omega, atI_nat (by rw [List.getElem?_map, List.getElem?_eq_getElem ht]; rfl), e⟩
theorem e_classes {b : Bk} (hb : OkBk b) {t : Nat} (ht : t < b.traits.length) : F_classes_of [.d (encB b), .d (.int t)] = some (.d (.tuple ((clsI b t).map fun p => tupD p.2)), [.d (encB b), .d (.int t)]) := by
  obtain ⟨m1, m2, a1, a2⟩ := most_le hb ht
  have hn : (statesI b t).length ≤ 3 := rngI_le (by omega)
  obtain ⟨Γ', e, ⟨s3, rfl⟩, nd, hl1, hl2⟩ := forL_rem (g := setS 3) (mb := mDrop (mSdApp 2 3 (mCall 3 F_showers (mAc (mVar 0) (mAc (mVar 1) (mAc (mVar 3) mA0)))))) PyData.int
    (fun (left : List Int) (acc : List (Row × List Int)) Γ => (∃ s3, Γ = [.d (encB b), .d (.int t), .own (.ldct (encL acc)), s3, .no]) ∧ (acc.map (·.1)).Nodup ∧ acc.length + left.length ≤ 3 ∧ ∃ n, n + left.length ≤ 3 ∧ ∀ p ∈ acc, p.2.length ≤ n) (clsF b t) (by
      rintro s r acc _ ⟨⟨s3, rfl⟩, nd, h1, n, h2, h3⟩
      rw [List.length_cons] at h1 h2
      have g1 := (appA_len (k := castN (showN b t s)) (m := s) (l := acc)).1
      refine ⟨_, ?_, ⟨.d (.int s), rfl⟩, appA_nodup nd, by unfold clsF; omega, n + 1, by omega, (appA_len (l := acc)).2 n h3⟩
      have es := sdapp_of (Γ := [.d (encB b), .d (.int t), .own (.ldct (encL acc)), .d (.int s), .no]) (i := 2) (j := 3) (mk := mCall 3 F_showers (mAc (mVar 0) (mAc (mVar 1) (mAc (mVar 3) mA0)))) rfl (call3 (ev_vd rfl) (ev_vd rfl) (ev_vd rfl) (e_showers hb ht s) rfl) rfl nd (show _ < 1000000 by omega) (fun p hp => by have := h3 p hp; show _ < 1000000; omega)
      simp [forStep, mDrop, es, clsF]) (ts := statesI b t) (s := []) (Γ := [.d (encB b), .d (.int t), .own (.ldct (encL [])), .no, .no]) ⟨⟨_, rfl⟩, by simp, by simpa using hn, 0, by simpa using hn, by simp⟩
  have er : mRange1 (mBin gAdd (mBin gIx (mBin gIx (mBin gIx (mVar 0) (mC (.int 2))) (mVar 1)) (mC (.int 1))) (mC (.int 1))) [.d (encB b), .d (.int t), .own (.ldct (encL [])), .no, .no] = some ((statesI b t).map PyData.int, [.d (encB b), .d (.int t), .own (.ldct (encL [])), .no, .no]) := by
    refine rng_x (x := mostI b t + 1) ?_ (by omega) (by omega)
    simp [encB, a1, encT, a2]
  have ev := lc_map (mi := mValuesL 2) (g := setS 4) (me := mUn gTuple (mVar 4)) (vs := [4]) (Γ := [.d (encB b), .d (.int t), .own (.ldct (encL (clsI b t))), s3, .no]) (Γ0 := [.d (encB b), .d (.int t), .no, s3, .no]) (ts := clsI b t) (fun p => PyData.list (p.2.map PyData.int)) (fun p => tupD p.2) (valuesL_of rfl) rfl (fun p _ => by simp [lcStep, gTuple, tupD]) (by
    show _ ≤ 1000000
    have : (clsI b t).length ≤ 3 := by unfold clsI; simp only [List.length_nil] at hl1; omega
    omega)
  refine ev_runx [.d (encB b), .d (.int t), .no, s3, .no] ?_
  refine seq_nx (Γ1 := [.d (encB b), .d (.int t), .own (.ldct (encL [])), .no, .no]) (set_of (s := .own (.ldct [])) rfl rfl) ?_
  refine seq_nx ((for_of er).trans e) ?_
  exact ret_of (s := .d (.tuple ((clsI b t).map fun p => tupD p.2))) (Γ1 := [.d (encB b), .d (.int t), .no, s3, .no]) (un_of ev (by simp [gTuple])) rfl
/-! what a class holds -/
theorem cls_facts (b : Bk) (t : Nat) : (flatA (clsI b t)).Perm (statesI b t) ∧ (∀ p ∈ clsI b t, p.2 ≠ [] ∧ ∀ s ∈ p.2, p.1 = castN (showN b t s)) ∧ (clsI b t).length ≤ (statesI b t).length := by
  have go : ∀ (ss : List Int) (acc : List (Row × List Int)), (∀ p ∈ acc, p.2 ≠ [] ∧ ∀ s ∈ p.2, p.1 = castN (showN b t s)) →
      (flatA (ss.foldl (clsF b t) acc)).Perm (flatA acc ++ ss) ∧ (∀ p ∈ ss.foldl (clsF b t) acc, p.2 ≠ [] ∧ ∀ s ∈ p.2, p.1 = castN (showN b t s)) ∧ (ss.foldl (clsF b t) acc).length ≤ acc.length + ss.length := fun ss => by
    induction ss with
    | nil => intro acc h; simpa using h
    | cons s r ih =>
      intro acc h
      obtain ⟨h1, h2, h3⟩ := ih (clsF b t acc s) (appA_all (P := fun k x => k = castN (showN b t x)) rfl h)
      refine ⟨h1.trans ?_, h2, ?_⟩
      · have := flatA_app (k := castN (showN b t s)) (m := s) (l := acc)
        refine (List.Perm.append_right r this).trans ?_
        rw [List.append_assoc]; rfl
      · have := (appA_len (k := castN (showN b t s)) (m := s) (l := acc)).1
        have e : (clsF b t acc s).length ≤ acc.length + 1 := this
        show (r.foldl (clsF b t) (clsF b t acc s)).length ≤ _
        rw [List.length_cons]
        omega
  obtain ⟨h1, h2, h3⟩ := go (statesI b t) [] (by simp)
  unfold clsI
  exact ⟨by simpa [flatA] using h1, h2, by simpa using h3⟩
/-! columns -/
def colsN (b : Bk) (t : Nat) (s : Int) : List (Int × Int) := if s = -1 then (clsI b t).map fun p => (p.2.headD 0, (p.2.length : Int)) else [(s, 1)]
theorem e_columns_by {b : Bk} (hb : OkBk b) {t : Nat} (ht : t < b.traits.length) (s : Int) : F_columns_by [.d (encB b), .d (.int t), .d (.int s)] = some (.own (.lst ((colsN b t s).map encP)), [.d (encB b), .d (.int t), .d (.int s)]) := by
  by_cases hs : s = -1
  · subst hs
    obtain ⟨_, c2, c3⟩ := cls_facts b t
    obtain ⟨m1, m2, a1, a2⟩ := most_le hb ht
    have hn : (statesI b t).length ≤ 3 := rngI_le (by omega)
    have ev := lc_map (mi := mSeqI (mCall 2 F_classes_of (mAc (mVar 0) (mAc (mVar 1) mA0)))) (g := setS 3) (me := mTup (mDc (mBin gIx (mVar 3) (mC (.int 0))) (mDc (mUn (gSc1 lenD) (mVar 3)) mD0))) (vs := [3]) (Γ := [.d (encB b), .d (.int t), .d (.int (-1)), .no]) (Γ0 := [.d (encB b), .d (.int t), .d (.int (-1)), .no]) (ts := clsI b t) (fun p => tupD p.2) (fun p => encP (p.2.headD 0, (p.2.length : Int))) (seqI_of (call2 (Γ2 := [.d (encB b), .d (.int t), .d (.int (-1)), .no]) (ev_vd rfl) (ev_vd rfl) (e_classes hb ht) rfl)) rfl (fun p hp => by
      obtain ⟨h1, _⟩ := c2 p hp
      obtain ⟨x, r, e⟩ := List.exists_cons_of_ne_nil h1
      have a3 : L2.atI (PyData.int x :: r.map PyData.int) 0 = some (.int x) := atI_nat (i := 0) rfl
      simp [lcStep, tupD, e, a3, encP]) (by show _ ≤ 1000000; omega)
    refine ev_runx [.d (encB b), .d (.int t), .d (.int (-1)), .no] ?_
    refine seq_nx (Γ1 := [.d (encB b), .d (.int t), .d (.int (-1)), .no]) (by simp) ?_
    refine ret_of (s := .own (.lst ((colsN b t (-1)).map encP))) (Γ1 := [.d (encB b), .d (.int t), .d (.int (-1)), .no]) (ev.trans ?_) rfl
    simp [colsN, List.map_map, Function.comp_def]
  · refine ev_runx [.d (encB b), .d (.int t), .d (.int s), .no] ?_
    simp [hs, colsN, encP]
/-! rows, one trait on -/
def stepL (b : Bk) (t : Nat) (s : Int) (rows : List (Row × Int)) : List (Row × Int) := rows.flatMap fun r => (colsN b t s).map fun c => (missR b t c.1 r.1, r.2 * c.2)
def stepR (b : Bk) (t : Nat) (s : Int) (rows : List (Row × Int)) : List (Row × Int) := tal [] (stepL b t s rows)
abbrev bodyC : MS := mSeq (mSet (setS 9) (mCall 4 F_missed (mAc (mVar 0) (mAc (mVar 5) (mAc (mVar 2) (mAc (mVar 7) mA0)))))) (mPutT 4 (mVar 9) (mBin gAdd (mGetT 4 (mVar 9) (mC (.int 0))) (mBin gMul (mVar 6) (mVar 8))))
theorem call4 {F : FS} {a b c d : M} {w x y z : Dat} {r : DL.Slot} {Γ Γ1 Γ2 Γ3 Γ4 : DL.Env} (h1 : a Γ = some (.d w, Γ1)) (h2 : b Γ1 = some (.d x, Γ2)) (h3 : c Γ2 = some (.d y, Γ3)) (h4 : d Γ3 = some (.d z, Γ4)) (hF : F [.d w, .d x, .d y, .d z] = some (r, [.d w, .d x, .d y, .d z])) (hk : keepable r = true) :
    mCall 4 F (mAc a (mAc b (mAc c (mAc d mA0)))) Γ = some (r, Γ4) :=
  call_of (ss := [.d w, .d x, .d y, .d z]) (ac_of h1 (ac_of h2 (ac_of h3 (ac_of h4 rfl)))) rfl hF rfl hk
abbrev EB (B : Dat) (s1 : DL.Slot) (t : Nat) (s : Int) (acc : List (Row × Int)) (s5 s6 s7 s8 s9 : DL.Slot) : DL.Env := [.d B, s1, .d (.int t), .d (.int s), .own (.tdct (encR acc)), s5, s6, s7, s8, s9]
theorem e_cols {b : Bk} (hb : OkBk b) {t : Nat} (ht : t < b.traits.length) {s : Int} {row : Row} {m : Int} (hr : row.length ≤ 7) (hm : 0 ≤ m ∧ m ≤ 1000) {cs : List (Int × Int)} {acc : List (Row × Int)} {s7 s8 s9 : DL.Slot} (nd : (acc.map (·.1)).Nodup) (hl : acc.length + cs.length ≤ 5000) :
    ∃ u7 u8 u9, forL (setT 2 (setC (setS 7) (setC (setS 8) setN))) bodyC (cs.map encP) (EB (encB b) .no t s acc (.d (tupD row)) (.d (.int m)) s7 s8 s9) = some (.nx, EB (encB b) .no t s (tal acc (cs.map fun c => (missR b t c.1 row, m * c.2))) (.d (tupD row)) (.d (.int m)) u7 u8 u9) := by
  have hmul : ∀ x : Int, mulC m x = true := fun x => by simp [mulC]; omega
  obtain ⟨Γ', e, ⟨u7, u8, u9, rfl⟩, _⟩ := forL_rem (g := setT 2 (setC (setS 7) (setC (setS 8) setN))) (mb := bodyC) encP (fun (left : List (Int × Int)) (acc : List (Row × Int)) Γ => (∃ s7 s8 s9, Γ = EB (encB b) .no t s acc (.d (tupD row)) (.d (.int m)) s7 s8 s9) ∧ (acc.map (·.1)).Nodup ∧ acc.length + left.length ≤ 5000)
    (fun acc c => bump acc (missR b t c.1 row) (m * c.2)) (by
      rintro ⟨x, y⟩ r acc _ ⟨⟨s7, s8, s9, rfl⟩, nd, hl⟩
      rw [List.length_cons] at hl
      have hb2 := bump_len (k := missR b t x row) (m := m * y) (l := acc)
      refine ⟨EB (encB b) .no t s (bump acc (missR b t x row) (m * y)) (.d (tupD row)) (.d (.int m)) (.d (.int x)) (.d (.int y)) (.d (tupD (missR b t x row))), ?_, ⟨_, _, _, rfl⟩, bump_nodup nd, by show (bump acc (missR b t x row) (m * y)).length + r.length ≤ 5000; omega⟩
      have e1 : setT 2 (setC (setS 7) (setC (setS 8) setN)) (.d (encP (x, y))) (EB (encB b) .no t s acc (.d (tupD row)) (.d (.int m)) s7 s8 s9) = some (EB (encB b) .no t s acc (.d (tupD row)) (.d (.int m)) (.d (.int x)) (.d (.int y)) s9) := by simp [encP]
      unfold forStep
      rw [e1, Option.bind_some]
      refine seq_nx (Γ1 := EB (encB b) .no t s acc (.d (tupD row)) (.d (.int m)) (.d (.int x)) (.d (.int y)) (.d (tupD (missR b t x row)))) (set_of (call4 (ev_vd rfl) (ev_vd rfl) (ev_vd rfl) (ev_vd rfl) (e_missed hb ht x hr) rfl) rfl) ?_
      refine (bump_of (k := missR b t x row) (m := m * y) (l := acc) rfl (ev_vd rfl) (bin_of (ev_vd rfl) (ev_vd rfl) (by simp [gMul, hmul])) nd (show _ < 1000000 by omega)).trans rfl) (ts := cs) (s := acc) ⟨⟨s7, s8, s9, rfl⟩, nd, hl⟩
  have ef : tal acc (cs.map fun c => (missR b t c.1 row, m * c.2)) = cs.foldl (fun acc c => bump acc (missR b t c.1 row) (m * c.2)) acc := by unfold tal; rw [List.foldl_map]
  rw [ef]
  exact ⟨u7, u8, u9, e⟩
theorem tal_app {acc xs ys : List (Row × Int)} : tal acc (xs ++ ys) = tal (tal acc xs) ys := List.foldl_append
theorem tal_nd : ∀ {xs acc : List (Row × Int)}, (acc.map (·.1)).Nodup → ((tal acc xs).map (·.1)).Nodup
  | [], _, h => h
  | p :: r, acc, h => tal_nd (xs := r) (bump_nodup h)
theorem cols_len {b : Bk} (hb : OkBk b) {t : Nat} (ht : t < b.traits.length) (s : Int) : (colsN b t s).length ≤ 3 := by
  obtain ⟨_, _, c3⟩ := cls_facts b t
  obtain ⟨m1, m2, a1, a2⟩ := most_le hb ht
  have hn : (statesI b t).length ≤ 3 := rngI_le (by omega)
  unfold colsN
  split
  · rw [List.length_map]; omega
  · simp
abbrev rowsOk (rows : List (Row × Int)) (n : Nat) : Prop := rows.length ≤ n ∧ ∀ r ∈ rows, r.1.length ≤ 7 ∧ 0 ≤ r.2 ∧ r.2 ≤ 1000
theorem stepL_len {b : Bk} (hb : OkBk b) {t : Nat} (ht : t < b.traits.length) (s : Int) (rows : List (Row × Int)) : (stepL b t s rows).length ≤ rows.length * 3 := by
  have h3 := cols_len hb ht s
  unfold stepL
  induction rows with
  | nil => simp
  | cons r t ih => rw [List.flatMap_cons, List.length_append, List.length_map, List.length_cons]; omega
theorem e_rows {b : Bk} (hb : OkBk b) {t : Nat} (ht : t < b.traits.length) {s : Int} {rows : List (Row × Int)} (hr : rowsOk rows 1000) :
    F_rows_behind [.d (encB b), .own (.tdct (encR rows)), .d (.int t), .d (.int s)] = some (.own (.tdct (encR (stepR b t s rows))), [.d (encB b), .no, .d (.int t), .d (.int s)]) := by
  have h3 := cols_len hb ht s
  have ecol := e_columns_by hb ht s
  obtain ⟨Γ', e, ⟨u5, u6, u7, u8, u9, rfl⟩, _, _, hlen⟩ := forL_rem (g := setT 2 (setC (setS 5) (setC (setS 6) setN))) (mb := mFor (mSeqI (mCall 3 F_columns_by (mAc (mVar 0) (mAc (mVar 2) (mAc (mVar 3) mA0))))) (setT 2 (setC (setS 7) (setC (setS 8) setN))) bodyC) L2.itD
    (fun (left : List (Row × Int)) (acc : List (Row × Int)) Γ => (∃ s5 s6 s7 s8 s9, Γ = EB (encB b) .no t s acc s5 s6 s7 s8 s9) ∧ (acc.map (·.1)).Nodup ∧ (∀ r ∈ left, r.1.length ≤ 7 ∧ 0 ≤ r.2 ∧ r.2 ≤ 1000) ∧ acc.length + left.length * 3 ≤ 3000)
    (fun acc r => tal acc ((colsN b t s).map fun c => (missR b t c.1 r.1, r.2 * c.2))) (by
      rintro ⟨row, m⟩ left acc _ ⟨⟨s5, s6, s7, s8, s9, rfl⟩, nd, hL, hl⟩
      rw [List.length_cons, Nat.add_mul] at hl
      obtain ⟨r1, r2⟩ := hL _ List.mem_cons_self
      obtain ⟨v7, v8, v9, ec⟩ := e_cols hb ht (s := s) (row := row) (m := m) r1 r2 (cs := colsN b t s) (acc := acc) (s7 := s7) (s8 := s8) (s9 := s9) nd (by omega)
      have tl := tal_len (xs := (colsN b t s).map fun c => (missR b t c.1 row, m * c.2)) (acc := acc)
      rw [List.length_map] at tl
      refine ⟨EB (encB b) .no t s (tal acc ((colsN b t s).map fun c => (missR b t c.1 row, m * c.2))) (.d (tupD row)) (.d (.int m)) v7 v8 v9, ?_, ⟨_, _, _, _, _, rfl⟩, tal_nd nd, fun r hr => hL r (List.mem_cons_of_mem _ hr), by show (tal acc ((colsN b t s).map fun c => (missR b t c.1 row, m * c.2))).length + left.length * 3 ≤ 3000; omega⟩
      have e1 : setT 2 (setC (setS 5) (setC (setS 6) setN)) (.d (L2.itD (row, m))) (EB (encB b) .no t s acc s5 s6 s7 s8 s9) = some (EB (encB b) .no t s acc (.d (tupD row)) (.d (.int m)) s7 s8 s9) := by simp [L2.itD, tupD]
      unfold forStep
      rw [e1, Option.bind_some]
      exact (for_of (seqO_of (call3 (ev_vd rfl) (ev_vd rfl) (ev_vd rfl) ecol rfl))).trans ec) (ts := rows) (s := []) (Γ := EB (encB b) .no t s [] .no .no .no .no .no) ⟨⟨_, _, _, _, _, rfl⟩, by simp, hr.2, by have := hr.1; simp only [List.length_nil]; omega⟩
  have ef : rows.foldl (fun acc r => tal acc ((colsN b t s).map fun c => (missR b t c.1 r.1, r.2 * c.2))) [] = stepR b t s rows := by
    have : ∀ (rows acc : List (Row × Int)), rows.foldl (fun acc r => tal acc ((colsN b t s).map fun c => (missR b t c.1 r.1, r.2 * c.2))) acc = tal acc (stepL b t s rows) := fun rows => by
      induction rows with
      | nil => intro acc; rfl
      | cons r q ih =>
        intro acc
        rw [List.foldl_cons, ih]
        show _ = tal acc (((colsN b t s).map fun c => (missR b t c.1 r.1, r.2 * c.2)) ++ stepL b t s q)
        rw [tal_app]
    exact this rows []
  rw [ef] at e hlen
  refine ev_runx [.d (encB b), .no, .d (.int t), .d (.int s), .no, u5, u6, u7, u8, u9] ?_
  refine seq_nx (Γ1 := [.d (encB b), .own (.tdct (encR rows)), .d (.int t), .d (.int s), .own (.tdct (encR [])), .no, .no, .no, .no, .no]) (set_of (s := .own (.tdct [])) rfl rfl) ?_
  refine seq_nx ((for_of (itemsT_of rfl)).trans e) ?_
  simp only [List.length_nil, Nat.zero_mul, Nat.add_zero] at hlen
  have h5 : ¬ (5000 : Int) < (stepR b t s rows).length := by omega
  refine seq_nx (Γ1 := EB (encB b) .no t s (stepR b t s rows) u5 u6 u7 u8 u9) (if_no ?_) ?_
  · simp [encR, Own.dat, datT, lenDD, gGt, h5]
  · simp
end K60

set_option Elab.async false
set_option linter.all false
set_option maxRecDepth 100000
set_option maxHeartbeats 4000000
namespace K60
open PySem DL
/-! ### counting by classes is counting state by state -/
theorem flat_split {α : Type} (A B : List α) : ∀ m : Nat, ((List.replicate m (A ++ B)).flatten).Perm ((List.replicate m A).flatten ++ (List.replicate m B).flatten)
  | 0 => .nil
  | m + 1 => by
    rw [List.replicate_succ, List.replicate_succ, List.replicate_succ, List.flatten_cons, List.flatten_cons, List.flatten_cons, List.append_assoc, List.append_assoc]
    refine List.Perm.append_left A ?_
    refine (List.Perm.append_left B (flat_split A B m)).trans ?_
    rw [← List.append_assoc, ← List.append_assoc]
    exact List.Perm.append_right _ List.perm_append_comm
theorem flat_perm {α : Type} {A B : List α} (h : A.Perm B) : ∀ m : Nat, ((List.replicate m A).flatten).Perm (List.replicate m B).flatten
  | 0 => .nil
  | m + 1 => by
    rw [List.replicate_succ, List.replicate_succ, List.flatten_cons, List.flatten_cons]
    exact h.append (flat_perm h m)
theorem cols_mul {f : Int → Row} {m : Int} (hm : 0 ≤ m) : ∀ {C : List (Int × Int)}, (∀ c ∈ C, 0 ≤ c.2) → (C.flatMap fun c => List.replicate (m * c.2).toNat (f c.1)).Perm (List.replicate m.toNat (C.flatMap fun c => List.replicate c.2.toNat (f c.1))).flatten
  | [], _ => by simp
  | c :: C, h => by
    rw [List.flatMap_cons, List.flatMap_cons]
    refine List.Perm.trans ?_ (flat_split _ _ _).symm
    have e : (List.replicate m.toNat (List.replicate c.2.toNat (f c.1))).flatten = List.replicate (m * c.2).toNat (f c.1) := by
      rw [List.flatten_replicate_replicate]
      congr 1
      rw [Int.toNat_mul hm (h c List.mem_cons_self)]
    rw [e]
    exact List.Perm.append_left _ (cols_mul hm fun x hx => h x (List.mem_cons_of_mem _ hx))
def colSt (b : Bk) (t : Nat) (s : Int) : List Int := if s = -1 then statesI b t else [s]
theorem cols_pos (b : Bk) (t : Nat) (s : Int) : ∀ c ∈ colsN b t s, 1 ≤ c.2 := by
  intro c hc
  unfold colsN at hc
  split at hc
  · obtain ⟨p, hp, rfl⟩ := List.mem_map.mp hc
    obtain ⟨h1, _⟩ := (cls_facts b t).2.1 p hp
    have := List.length_pos_iff.mpr h1
    show (1 : Int) ≤ p.2.length
    omega
  · rw [List.mem_singleton.mp hc]; exact Int.le_refl _
theorem rep_map {α β : Type} (f : α → β) (y : β) : ∀ {l : List α}, (∀ x ∈ l, f x = y) → List.replicate l.length y = l.map f
  | [], _ => rfl
  | a :: l, h => by rw [List.length_cons, List.replicate_succ, List.map_cons, h a List.mem_cons_self, rep_map f y fun x hx => h x (List.mem_cons_of_mem _ hx)]
theorem cols_unf {b : Bk} {t : Nat} {s : Int} {f : Int → Row} (hf : ∀ x y, castN (showN b t x) = castN (showN b t y) → f x = f y) : (colSt b t s).map f |>.Perm ((colsN b t s).flatMap fun c => List.replicate c.2.toNat (f c.1)) := by
  unfold colSt colsN
  split
  · obtain ⟨c1, c2, _⟩ := cls_facts b t
    refine (c1.symm.map f).trans ?_
    rw [List.flatMap_map]
    unfold flatA
    rw [List.map_flatMap]
    have : ∀ l : List (Row × List Int), (∀ p ∈ l, p.2 ≠ [] ∧ ∀ s ∈ p.2, p.1 = castN (showN b t s)) → (l.flatMap fun a => a.2.map f) = l.flatMap fun a => List.replicate ((a.2.length : Int)).toNat (f (a.2.headD 0)) := fun l => by
      induction l with
      | nil => intro _; rfl
      | cons p r ih =>
        intro h
        rw [List.flatMap_cons, List.flatMap_cons, ih fun x hx => h x (List.mem_cons_of_mem _ hx)]
        obtain ⟨h1, h2⟩ := h p List.mem_cons_self
        congr 1
        obtain ⟨x, q, e⟩ := List.exists_cons_of_ne_nil h1
        rw [Int.toNat_natCast]
        refine (rep_map f _ fun y hy => hf _ _ ?_).symm
        rw [← h2 y hy, e]
        exact h2 x (by rw [e]; exact List.mem_cons_self)
    rw [this _ c2]
  · simp
theorem show_inj {b : Bk} {t : Nat} {x y : Int} (h : castN (showN b t x) = castN (showN b t y)) : ∀ kd ∈ b.kinds, hasS kd t x = hasS kd t y := by
  have h2 : showN b t x = showN b t y := by
    unfold castN at h
    exact (List.map_inj_right (fun a c e => by omega)).mp h
  intro kd hk
  obtain ⟨i, hi⟩ := List.mem_iff_getElem?.mp hk
  have mem : ∀ z, i ∈ showN b t z ↔ hasS kd t z = true := fun z => by
    unfold showN
    rw [List.mem_map]
    constructor
    · rintro ⟨q, hq, rfl⟩
      obtain ⟨h3, h4⟩ := List.mem_filter.mp hq
      have := (mem_zip h3).2
      rw [hi] at this
      rw [Option.some.inj this]
      exact h4
    · intro hz
      exact ⟨(kd, i), List.mem_filter.mpr ⟨List.mem_zipIdx_iff_getElem?.mpr hi, hz⟩, rfl⟩
  have := (mem x).symm.trans ((by rw [h2] : i ∈ showN b t x ↔ i ∈ showN b t y).trans (mem y))
  cases h1 : hasS kd t x <;> cases h3 : hasS kd t y <;> simp_all
theorem miss_cong {b : Bk} {t : Nat} {x y : Int} (h : castN (showN b t x) = castN (showN b t y)) (row : Row) : missR b t x row = missR b t y row := by
  unfold missR
  refine List.map_congr_left fun q hq => ?_
  rw [show_inj h q.2 (List.of_mem_zip hq).2]
def nextV (b : Bk) (t : Nat) (s : Int) (vs : List Row) : List Row := vs.flatMap fun row => (colSt b t s).map fun x => missR b t x row
theorem stepL_pos {b : Bk} {t : Nat} {s : Int} {rows : List (Row × Int)} (g : ∀ p ∈ rows, 1 ≤ p.2) : ∀ p ∈ stepL b t s rows, 1 ≤ p.2 := by
  intro p hp
  unfold stepL at hp
  obtain ⟨r, hr, hp⟩ := List.mem_flatMap.mp hp
  obtain ⟨c, hc, rfl⟩ := List.mem_map.mp hp
  have h1 := g r hr
  have h2 := cols_pos b t s c hc
  have := Int.mul_le_mul h1 h2 (by omega) (by omega)
  show 1 ≤ r.2 * c.2
  omega
theorem step_good {b : Bk} {t : Nat} {s : Int} {rows : List (Row × Int)} (g : Good rows) : Good (stepR b t s rows) := tal_good Good.nil (stepL_pos g.pos)
theorem step_unf {b : Bk} {t : Nat} {s : Int} {rows : List (Row × Int)} (g : Good rows) : (unf (stepR b t s rows)).Perm (nextV b t s (unf rows)) := by
  refine (tal_unf Good.nil (stepL_pos g.pos)).trans ?_
  have e : unf [] ++ unf (stepL b t s rows) = unf (stepL b t s rows) := rfl
  rw [e]
  have gp := g.pos
  clear g e
  unfold nextV
  induction rows with
  | nil => exact .nil
  | cons r q ih =>
    have ih' := ih fun x hx => gp x (List.mem_cons_of_mem _ hx)
    have h1 := gp r List.mem_cons_self
    have e1 : unf (stepL b t s (r :: q)) = unf ((colsN b t s).map fun c => (missR b t c.1 r.1, r.2 * c.2)) ++ unf (stepL b t s q) := unf_app _ _
    rw [e1, unf_cons, List.flatMap_append]
    refine List.Perm.append ?_ ih'
    have e2 : unf ((colsN b t s).map fun c => (missR b t c.1 r.1, r.2 * c.2)) = (colsN b t s).flatMap fun c => List.replicate (r.2 * c.2).toNat (missR b t c.1 r.1) := by
      unfold unf
      rw [List.flatMap_map]
    rw [e2]
    refine (cols_mul (f := fun x => missR b t x r.1) (by omega) fun c hc => by have := cols_pos b t s c hc; omega).trans ?_
    have e3 : ((List.replicate r.2.toNat r.1).flatMap fun row => (colSt b t s).map fun x => missR b t x row) = (List.replicate r.2.toNat ((colSt b t s).map fun x => missR b t x r.1)).flatten := by
      rw [List.flatMap_replicate]
    rw [e3]
    exact flat_perm (cols_unf (f := fun x => missR b t x r.1) fun x y h => miss_cong h _).symm _
end K60

set_option Elab.async false
set_option linter.all false
set_option maxRecDepth 100000
set_option maxHeartbeats 4000000
namespace K60
open PySem DL
/-! ### rows by what each kind misses -/
def vecW (b : Bk) (w : Row) : Row := b.kinds.map fun kd => min2 ((missI kd.2.2 w).length : Nat) (b.errs + 1)
def zeros (b : Bk) : Row := List.replicate b.kinds.length 0
theorem miss_snoc (sh : List (List Int)) (w : Row) (x : Int) : (missI sh (w ++ [x])).length = (missI sh w).length + if x != -1 && !((sh[w.length]?).getD []).contains x then 1 else 0 := by
  unfold missI idxs
  rw [List.zipIdx_append, List.filter_append, List.map_append, List.length_append]
  congr 1
  simp only [List.zipIdx_cons, List.zipIdx_nil, Nat.zero_add]
  rw [List.filter_cons]
  simp only [List.filter_nil]
  split
  · rfl
  · rfl
theorem vec_next {b : Bk} {w : Row} {x : Int} (hx : 0 ≤ x) (he : 0 ≤ b.errs) : missR b w.length x (vecW b w) = vecW b (w ++ [x]) := by
  unfold missR vecW
  rw [List.zip_map_left, List.map_map]
  have : ∀ l : List (Str × Str × List (List Int)), (l.zip l).map ((fun q : Int × _ => if hasS q.2 w.length x then q.1 else min2 (q.1 + 1) (b.errs + 1)) ∘ Prod.map (fun kd => min2 ((missI kd.2.2 w).length : Nat) (b.errs + 1)) id) = l.map fun kd => min2 ((missI kd.2.2 (w ++ [x])).length : Nat) (b.errs + 1) := fun l => by
    induction l with
    | nil => rfl
    | cons kd r ih =>
      rw [List.zip_cons_cons, List.map_cons, List.map_cons, ih]
      congr 1
      have hx1 : (x != -1) = true := by simp; omega
      have hd : ∀ (c : Bool) (n : Nat) (E : Int), (if c = true then min2 n E else min2 (min2 n E + 1) E) = min2 ((n + if !c then 1 else 0 : Nat)) E := fun c n E => by
        cases c
        · show min2 (min2 n E + 1) E = min2 ((n + 1 : Nat)) E
          unfold min2
          split <;> split <;> split <;> omega
        · rfl
      have key : (if hasS kd w.length x = true then min2 ((missI kd.2.2 w).length : Nat) (b.errs + 1) else min2 (min2 ((missI kd.2.2 w).length : Nat) (b.errs + 1) + 1) (b.errs + 1)) = min2 ((missI kd.2.2 (w ++ [x])).length : Nat) (b.errs + 1) := by
        rw [miss_snoc, hx1, Bool.true_and]
        exact hd (hasS kd w.length x) _ _
      exact key
  exact this b.kinds
theorem vec_nil {b : Bk} (he : 0 ≤ b.errs) : vecW b [] = zeros b := by
  unfold vecW zeros
  rw [List.map_eq_replicate_iff.mpr]
  intro kd _
  simp [missI, idxs, min2]
  omega
def rd (r : Row) (t : Nat) : Int := (r[t]?).getD (-1)
def vecs (b : Bk) (r : Row) (n : Nat) : List Row := (List.range n).foldl (fun vs t => nextV b t (rd r t) vs) [zeros b]
def wrows (b : Bk) (r : Row) (n : Nat) : List Row := (List.range n).foldl (fun ws t => addCol ws (colSt b t (rd r t))) [[]]
theorem col_nn {b : Bk} {t : Nat} {s : Int} (h : -1 ≤ s) : ∀ x ∈ colSt b t s, 0 ≤ x := by
  intro x hx
  unfold colSt at hx
  split at hx
  · exact (rngI_mem.mp hx).1
  · rw [List.mem_singleton.mp hx]; omega
theorem vecs_eq {b : Bk} (he : 0 ≤ b.errs) {r : Row} (hr : ∀ t, -1 ≤ rd r t) : ∀ n, vecs b r n = (wrows b r n).map (vecW b) ∧ ∀ w ∈ wrows b r n, w.length = n
  | 0 => ⟨by simp [vecs, wrows, vec_nil he], by simp [wrows]⟩
  | n + 1 => by
    obtain ⟨h1, h2⟩ := vecs_eq he hr n
    have e1 : vecs b r (n + 1) = nextV b n (rd r n) (vecs b r n) := by unfold vecs; rw [List.range_succ, List.foldl_append]; rfl
    have e2 : wrows b r (n + 1) = addCol (wrows b r n) (colSt b n (rd r n)) := by unfold wrows; rw [List.range_succ, List.foldl_append]; rfl
    rw [e1, e2, h1]
    refine ⟨?_, fun w hw => ?_⟩
    · unfold nextV addCol
      rw [List.flatMap_map, List.map_flatMap]
      have hc := col_nn (b := b) (t := n) (hr n)
      generalize wrows b r n = ws at h2
      generalize colSt b n (rd r n) = col at hc
      clear h1 e1 e2
      induction ws with
      | nil => rfl
      | cons w q ih =>
        rw [List.flatMap_cons, List.flatMap_cons, ih fun x hx => h2 x (List.mem_cons_of_mem _ hx)]
        congr 1
        rw [List.map_map]
        refine List.map_congr_left fun x hx => ?_
        have := h2 w List.mem_cons_self
        subst this
        exact vec_next (hc x hx) he
    · unfold addCol at hw
      obtain ⟨v, hv, hw⟩ := List.mem_flatMap.mp hw
      obtain ⟨x, _, rfl⟩ := List.mem_map.mp hw
      rw [List.length_append, h2 v hv]
      rfl
def rowsF (b : Bk) (r : Row) (n : Nat) : List (Row × Int) := (List.range n).foldl (fun rows t => stepR b t (rd r t) rows) [(zeros b, 1)]
theorem rowsF_unf {b : Bk} {r : Row} : ∀ n, Good (rowsF b r n) ∧ (unf (rowsF b r n)).Perm (vecs b r n)
  | 0 => ⟨⟨by simp [rowsF], by simp [rowsF]⟩, by simp [rowsF, vecs, unf]⟩
  | n + 1 => by
    obtain ⟨g, h⟩ := rowsF_unf (b := b) (r := r) n
    have e1 : vecs b r (n + 1) = nextV b n (rd r n) (vecs b r n) := by unfold vecs; rw [List.range_succ, List.foldl_append]; rfl
    have e2 : rowsF b r (n + 1) = stepR b n (rd r n) (rowsF b r n) := by unfold rowsF; rw [List.range_succ, List.foldl_append]; rfl
    rw [e1, e2]
    refine ⟨step_good g, (step_unf g).trans ?_⟩
    unfold nextV
    exact h.flatMap_right _
/-! whom a row lets -/
theorem lot_vec {b : Bk} {w : Row} : lotR b (vecW b w) = castN (toldN b w) := by
  unfold lotR castN toldN
  have e : ∀ (ks : List (Str × Str × List (List Int))) (j : Nat), ((((ks.map fun kd => min2 ((missI kd.2.2 w).length : Nat) (b.errs + 1)).zipIdx j).filter fun q => decide (q.1 ≤ b.errs)).map fun q => (q.2 : Int)) =
      ((ks.zipIdx j).filter fun q => decide (((missI q.1.2.2 w).length : Int) ≤ b.errs)).map fun q => (q.2 : Int) := fun ks => by
    induction ks with
    | nil => intro j; rfl
    | cons kd r ih =>
      intro j
      rw [List.map_cons, List.zipIdx_cons, List.zipIdx_cons, List.filter_cons, List.filter_cons]
      have : decide (min2 ((missI kd.2.2 w).length : Nat) (b.errs + 1) ≤ b.errs) = decide (((missI kd.2.2 w).length : Int) ≤ b.errs) := by
        unfold min2
        split
        · rw [decide_eq_false (by omega), decide_eq_false (by omega)]
        · rfl
      rw [this]
      split
      · rw [List.map_cons, List.map_cons, ih]
      · exact ih _
  have e2 := e b.kinds 0
  show _ = _
  unfold vecW
  rw [e2]
  have e3 : b.kinds.zipIdx = (List.range b.kinds.length).map fun i : Nat => (((b.kinds[i]?).getD ("", "", [])), i) := by
    apply List.ext_getElem?
    intro i
    rw [List.getElem?_zipIdx, List.getElem?_map]
    by_cases h : i < b.kinds.length
    · rw [List.getElem?_range h]; simp [List.getElem?_eq_getElem h]
    · rw [List.getElem?_eq_none (by omega), List.getElem?_eq_none (by simp; omega)]; rfl
  rw [e3, List.filter_map, List.map_map]
  have e4 : (List.range b.kinds.length).filter ((fun q : (Str × Str × List (List Int)) × Nat => decide (((missI q.1.2.2 w).length : Int) ≤ b.errs)) ∘ fun i : Nat => (((b.kinds[i]?).getD ("", "", [])), i)) = (List.range b.kinds.length).filter (fitK b w) := by
    refine List.filter_congr fun i hi => ?_
    have h := List.mem_range.mp hi
    simp only [Function.comp_def, fitK, missK, showsK, List.getElem?_eq_getElem h, Option.getD_some, Option.map_some]
  rw [e4]
  rfl
end K60

set_option Elab.async false
set_option linter.all false
set_option maxRecDepth 100000
set_option maxHeartbeats 4000000
namespace K60
open PySem DL
/-! ### the whole readings that go on -/
def onI (b : Bk) (r : Row) : List Row := (wholesI b).filter (goesI r)
theorem goes_cons (y : Int) (rs : Row) (a : Int) (w : Row) : goesI (y :: rs) (a :: w) = ((y == -1 || y == a) && goesI rs w) := by
  unfold goesI
  rw [List.zip_cons_cons, List.all_cons]
theorem goes_snoc {x : Int} : ∀ {w r : Row} (h : w.length < r.length), goesI r (w ++ [x]) = (goesI r w && (r[w.length] == -1 || r[w.length] == x))
  | [], y :: rs, _ => by
    rw [List.nil_append, goes_cons]
    unfold goesI
    simp
  | a :: w, y :: rs, h => by
    have ih := goes_snoc (x := x) (w := w) (r := rs) (by simpa using h)
    rw [List.cons_append, goes_cons, goes_cons, ih, Bool.and_assoc]
    rfl
  | _, [], h => by simp at h
theorem mem_rngI {n x : Int} : x ∈ rngI n ↔ 0 ≤ x ∧ x < n := rngI_mem
theorem nodup_rng (n : Int) : (rngI n).Nodup := by
  unfold rngI
  exact nodup_inj (fun a b h => by omega) List.nodup_range
theorem filter_one {l : List Int} {y : Int} (nd : l.Nodup) (h : y ∈ l) : l.filter (fun x => y == x) = [y] := by
  induction l with
  | nil => cases h
  | cons a q ih =>
    rw [List.nodup_cons] at nd
    rw [List.filter_cons]
    by_cases e : y = a
    · rw [if_pos (by simp [e])]
      have : q.filter (fun x => y == x) = [] := by
        rw [List.filter_eq_nil_iff]
        intro z hz
        simp only [beq_iff_eq]
        intro ez
        exact nd.1 (e ▸ ez ▸ hz)
      rw [this, e]
    · rw [if_neg (by simp [e])]
      rcases List.mem_cons.mp h with z | z
      · exact absurd z e
      · exact ih nd.2 z
def fullR (b : Bk) (n : Nat) : List Row := (List.range n).foldl (fun ws t => addCol ws (statesI b t)) [[]]
theorem add_filter {P : Row → Bool} {p : Int → Bool} {Q : Row → Bool} {ws : List Row} {col : List Int} (h : ∀ w ∈ ws, ∀ x ∈ col, Q (w ++ [x]) = (P w && p x)) : addCol (ws.filter P) (col.filter p) = (addCol ws col).filter Q := by
  induction ws with
  | nil => rfl
  | cons w q ih =>
    have ih' := ih fun v hv => h v (List.mem_cons_of_mem _ hv)
    have e1 : addCol (w :: q) col = (col.map fun x => w ++ [x]) ++ addCol q col := rfl
    rw [e1, List.filter_append, ← ih', List.filter_cons, List.filter_map]
    have hw := h w List.mem_cons_self
    by_cases hp : P w = true
    · rw [if_pos hp]
      have e2 : addCol (w :: q.filter P) (col.filter p) = ((col.filter p).map fun x => w ++ [x]) ++ addCol (q.filter P) (col.filter p) := rfl
      rw [e2]
      congr 2
      exact List.filter_congr fun x hx => by rw [Function.comp_def]; simp only [hw x hx, hp, Bool.true_and]
    · rw [if_neg hp]
      have : col.filter (Q ∘ fun x => w ++ [x]) = [] := by
        rw [List.filter_eq_nil_iff]
        intro x hx
        rw [Function.comp_def]
        simp only [hw x hx]
        simp [hp]
      rw [this]
      rfl
theorem ok_rd {b : Bk} {r : Row} (hr : OkR b r) : r.length = b.traits.length ∧ ∀ t (h : t < b.traits.length), -1 ≤ rd r t ∧ rd r t ≤ mostI b t := by
  have hl := each_len hr
  refine ⟨hl.symm, fun t h => ?_⟩
  have gen : ∀ (ts : List (Str × Int × Int)) (r : Row), PySem.W.EachIs (fun t x => -1 ≤ x ∧ x ≤ t.2.1) ts r → ∀ t (h : t < ts.length), -1 ≤ (r[t]?).getD (-1) ∧ (r[t]?).getD (-1) ≤ ((ts[t]?).map (·.2.1)).getD 0 := fun ts r hh => by
    induction hh with
    | nil => intro t h; simp at h
    | cons q _ ih =>
      intro t h
      cases t with
      | zero => simpa using q
      | succ t => simpa using ih t (by simpa using h)
  exact gen _ _ hr t h
theorem col_filter {b : Bk} {r : Row} (hr : OkR b r) {t : Nat} (h : t < b.traits.length) : colSt b t (rd r t) = (statesI b t).filter fun x => rd r t == -1 || rd r t == x := by
  obtain ⟨h1, h2⟩ := (ok_rd hr).2 t h
  unfold colSt
  by_cases e : rd r t = -1
  · rw [if_pos e]
    exact (List.filter_eq_self.mpr fun x _ => by simp [e]).symm
  · rw [if_neg e]
    have : (fun x => rd r t == -1 || rd r t == x) = fun x => rd r t == x := by
      funext x
      have : (rd r t == -1) = false := by simp [e]
      rw [this, Bool.false_or]
    unfold statesI
    rw [this, filter_one (nodup_rng _) (mem_rngI.mpr ⟨by omega, by omega⟩)]
theorem wrows_on {b : Bk} {r : Row} (hr : OkR b r) : ∀ n, n ≤ b.traits.length → wrows b r n = (fullR b n).filter (goesI r) ∧ ∀ w ∈ fullR b n, w.length = n
  | 0, _ => by
    refine ⟨?_, by simp [fullR]⟩
    show [[]] = List.filter (goesI r) [[]]
    rw [List.filter_cons, if_pos (by unfold goesI; simp)]
    rfl
  | n + 1, hn => by
    obtain ⟨h1, h2⟩ := wrows_on hr n (by omega)
    have e1 : wrows b r (n + 1) = addCol (wrows b r n) (colSt b n (rd r n)) := by unfold wrows; rw [List.range_succ, List.foldl_append]; rfl
    have e2 : fullR b (n + 1) = addCol (fullR b n) (statesI b n) := by unfold fullR; rw [List.range_succ, List.foldl_append]; rfl
    have hl := (ok_rd hr).1
    rw [e1, e2, h1, col_filter hr (by omega)]
    refine ⟨add_filter fun w hw x hx => ?_, fun w hw => ?_⟩
    · have hwl := h2 w hw
      subst hwl
      rw [goes_snoc (by omega)]
      have : rd r w.length = r[w.length]'(by omega) := by unfold rd; rw [List.getElem?_eq_getElem (by omega)]; rfl
      rw [this]
    · unfold addCol at hw
      obtain ⟨v, hv, hw⟩ := List.mem_flatMap.mp hw
      obtain ⟨x, _, rfl⟩ := List.mem_map.mp hw
      rw [List.length_append, h2 v hv]
      rfl
theorem full_eq (b : Bk) : fullR b b.traits.length = wholesI b := by
  unfold wholesI rowsI fullR
  have e : (b.traits.map fun t => rngI (t.2.1 + 1)) = (List.range b.traits.length).map fun t => statesI b t := by
    apply List.ext_getElem?
    intro i
    rw [List.getElem?_map, List.getElem?_map]
    by_cases h : i < b.traits.length
    · rw [List.getElem?_range h, List.getElem?_eq_getElem h]
      simp [statesI, mostI, List.getElem?_eq_getElem h]
    · rw [List.getElem?_eq_none (by omega), List.getElem?_eq_none (by simp; omega)]; rfl
  rw [e, List.foldl_map]
/-! ### the tally -/
def talW (b : Bk) (ws : List Row) : List (Row × Int) := tal [] (ws.map fun w => (castN (toldN b w), 1))
theorem talW_good (b : Bk) (ws : List Row) : Good (talW b ws) ∧ (unf (talW b ws)).Perm (ws.map fun w => castN (toldN b w)) := by
  have hp : ∀ p ∈ ws.map (fun w => (castN (toldN b w), (1 : Int))), 1 ≤ p.2 := fun p hp => by
    obtain ⟨w, _, rfl⟩ := List.mem_map.mp hp
    exact Int.le_refl _
  refine ⟨tal_good Good.nil hp, (tal_unf Good.nil hp).trans ?_⟩
  have : ∀ ws : List Row, unf (ws.map fun w => (castN (toldN b w), (1 : Int))) = ws.map fun w => castN (toldN b w) := fun ws => by
    induction ws with
    | nil => rfl
    | cons w q ih => rw [List.map_cons, unf_cons, ih]; rfl
  rw [this]
  exact List.Perm.refl _
def lotsF (b : Bk) (r : Row) : List (Row × Int) := tal [] ((rowsF b r b.traits.length).map fun p => (lotR b p.1, p.2))
theorem unf_map (f : Row → Row) (l : List (Row × Int)) : unf (l.map fun p => (f p.1, p.2)) = (unf l).map f := by
  induction l with
  | nil => rfl
  | cons p q ih => rw [List.map_cons, unf_cons, unf_cons, ih, List.map_append, List.map_replicate]
theorem lots_eq {b : Bk} (hb : OkBk b) {r : Row} (hr : OkR b r) : sortT (lotsF b r) = sortT (talW b (onI b r)) := by
  obtain ⟨g, h⟩ := rowsF_unf (b := b) (r := r) b.traits.length
  have hrd : ∀ t, -1 ≤ rd r t := fun t => by
    by_cases ht : t < b.traits.length
    · exact ((ok_rd hr).2 t ht).1
    · unfold rd; rw [List.getElem?_eq_none (by rw [(ok_rd hr).1]; omega)]; exact Int.le_refl _
  obtain ⟨v1, _⟩ := vecs_eq hb.2.2.2.2.1 hrd b.traits.length
  obtain ⟨w1, _⟩ := wrows_on hr b.traits.length (Nat.le_refl _)
  have gp : ∀ p ∈ (rowsF b r b.traits.length).map (fun p => (lotR b p.1, p.2)), 1 ≤ p.2 := fun p hp => by
    obtain ⟨q, hq, rfl⟩ := List.mem_map.mp hp
    exact g.pos q hq
  have g1 : Good (lotsF b r) := tal_good Good.nil gp
  obtain ⟨g2, h2⟩ := talW_good b (onI b r)
  refine sort_perm (perm_of g1 g2 ?_)
  refine (tal_unf Good.nil gp).trans ?_
  refine List.Perm.trans ?_ h2.symm
  show (unf ((rowsF b r b.traits.length).map fun p => (lotR b p.1, p.2))).Perm _
  rw [unf_map]
  refine (h.map _).trans ?_
  rw [v1, w1, full_eq, List.map_map]
  have : (lotR b ∘ vecW b) = fun w => castN (toldN b w) := funext fun w => lot_vec
  rw [this]
  exact List.Perm.refl _
end K60

set_option Elab.async false
set_option linter.all false
set_option maxRecDepth 100000
set_option maxHeartbeats 4000000
namespace K60
open PySem DL
/-! ### tally_from -/
theorem good_bounds {rows : List (Row × Int)} (g : Good rows) : rows.length ≤ (unf rows).length ∧ ∀ r ∈ rows, r.2 ≤ (unf rows).length ∧ r.1 ∈ unf rows := by
  have gp := g.pos
  clear g
  induction rows with
  | nil => simp
  | cons p q ih =>
    obtain ⟨h1, h2⟩ := ih fun x hx => gp x (List.mem_cons_of_mem _ hx)
    have hp := gp p List.mem_cons_self
    rw [unf_cons, List.length_append, List.length_replicate, List.length_cons]
    refine ⟨by omega, fun r hr => ?_⟩
    rcases List.mem_cons.mp hr with rfl | hr
    · exact ⟨by omega, List.mem_append_left _ (List.mem_replicate.mpr ⟨by omega, rfl⟩)⟩
    · obtain ⟨h3, h4⟩ := h2 r hr
      exact ⟨by omega, List.mem_append_right _ h4⟩
theorem miss_len {b : Bk} {t : Nat} {s : Int} {row : Row} (h : row.length = b.kinds.length) : (missR b t s row).length = b.kinds.length := by
  unfold missR
  rw [List.length_map, List.length_zip, h, Nat.min_self]
theorem colSt_len {b : Bk} (hb : OkBk b) {t : Nat} (ht : t < b.traits.length) (s : Int) : (colSt b t s).length ≤ 3 := by
  obtain ⟨m1, m2, a1, a2⟩ := most_le hb ht
  unfold colSt
  split
  · exact rngI_le (by omega)
  · simp
theorem next_len {b : Bk} (hb : OkBk b) {t : Nat} (ht : t < b.traits.length) (s : Int) (vs : List Row) : (nextV b t s vs).length ≤ vs.length * 3 := by
  have := colSt_len hb ht s
  unfold nextV
  induction vs with
  | nil => simp
  | cons v q ih => rw [List.flatMap_cons, List.length_append, List.length_map, List.length_cons]; omega
abbrev ET (B R : Dat) (rows : List (Row × Int)) (found : List (Row × Int)) (s5 s6 s7 s8 : DL.Slot) : DL.Env := [.d B, .d R, .own (.tdct (encR rows)), .own (.tdct (encR found)), .no, s5, s6, s7, s8]
theorem e_trow {b : Bk} {r : Row} (hr : OkR b r) {t : Nat} (ht : t < b.traits.length) : L2.atI (r.map PyData.int) (t : Int) = some (.int (rd r t)) := by
  have hl := (ok_rd hr).1
  refine atI_nat ?_
  have h : t < r.length := by omega
  rw [List.getElem?_map, List.getElem?_eq_getElem h]
  unfold rd
  rw [List.getElem?_eq_getElem h]
  rfl
theorem e_tloop {b : Bk} (hb : OkBk b) {r : Row} (hr : OkR b r) : ∃ s5, forL (setS 5) (mSet (setS 2) (mCall 4 F_rows_behind (mAc (mVar 0) (mAc (mVar 2) (mAc (mVar 5) (mAc (mBin gIx (mVar 1) (mVar 5)) mA0)))))) ((List.range b.traits.length).map fun i : Nat => PyData.int i) (ET (encB b) (tupD r) [(zeros b, 1)] [] .no .no .no .no) =
    some (.nx, ET (encB b) (tupD r) (rowsF b r b.traits.length) [] s5 .no .no .no) := by
  have h4 := hb.1.2.1
  obtain ⟨Γ', e, ⟨s5, rfl⟩, _⟩ := forL_rem (g := setS 5) (mb := mSet (setS 2) (mCall 4 F_rows_behind (mAc (mVar 0) (mAc (mVar 2) (mAc (mVar 5) (mAc (mBin gIx (mVar 1) (mVar 5)) mA0)))))) (fun i : Nat => PyData.int i)
    (fun (left : List Nat) (rows : List (Row × Int)) Γ => (∃ s5, Γ = ET (encB b) (tupD r) rows [] s5 .no .no .no) ∧ Good rows ∧ (unf rows).length * 3 ^ left.length ≤ 81 ∧ (∀ row ∈ unf rows, row.length = b.kinds.length) ∧ ∀ t ∈ left, t < b.traits.length)
    (fun rows t => stepR b t (rd r t) rows) (by
      rintro t left rows _ ⟨⟨s5, rfl⟩, g, hl, hrow, ht⟩
      have htt := ht t List.mem_cons_self
      rw [List.length_cons, Nat.pow_succ, Nat.mul_comm (3 ^ left.length) 3, ← Nat.mul_assoc] at hl
      have hp1 : 1 ≤ 3 ^ left.length := Nat.one_le_pow _ _ (by decide)
      have hu : (unf rows).length * 3 ≤ 81 := Nat.le_trans (Nat.le_mul_of_pos_right _ hp1) hl
      obtain ⟨b1, b2⟩ := good_bounds g
      have hk7 := hb.2.2.1
      have er := e_rows hb htt (s := rd r t) (rows := rows) ⟨by omega, fun p hp => by
        obtain ⟨h1, h2⟩ := b2 p hp
        have := hrow p.1 h2
        have := g.pos p hp
        exact ⟨by omega, by omega, by omega⟩⟩
      have hU := step_unf (b := b) (t := t) (s := rd r t) g
      refine ⟨ET (encB b) (tupD r) (stepR b t (rd r t) rows) [] (.d (.int t)) .no .no .no, ?_, ⟨_, rfl⟩, step_good g, ?_, fun row hrw => ?_, fun x hx => ht x (List.mem_cons_of_mem _ hx)⟩
      · unfold forStep
        refine (show mSet (setS 2) (mCall 4 F_rows_behind (mAc (mVar 0) (mAc (mVar 2) (mAc (mVar 5) (mAc (mBin gIx (mVar 1) (mVar 5)) mA0))))) (ET (encB b) (tupD r) rows [] (.d (.int t)) .no .no .no) = _ from ?_)
        have ea : mAc (mVar 0) (mAc (mVar 2) (mAc (mVar 5) (mAc (mBin gIx (mVar 1) (mVar 5)) mA0))) (ET (encB b) (tupD r) rows [] (.d (.int t)) .no .no .no) = some ([.d (encB b), .bor 2, .d (.int t), .d (.int (rd r t))], ET (encB b) (tupD r) rows [] (.d (.int t)) .no .no .no) :=
          ac_p (ev_vd rfl) (ac_p (ev_vo rfl) (ac_p (ev_vd rfl) (ac_p (bin_of (ev_vd rfl) (ev_vd rfl) (by simp [tupD, e_trow hr htt])) rfl)))
        exact set_of (call_of ea rfl er rfl rfl) rfl
      · rw [hU.length_eq]
        have := next_len hb htt (rd r t) (unf rows)
        exact Nat.le_trans (Nat.mul_le_mul_right _ this) hl
      · have := hU.mem_iff.mp hrw
        unfold nextV at this
        obtain ⟨v, hv, hw⟩ := List.mem_flatMap.mp this
        obtain ⟨x, _, rfl⟩ := List.mem_map.mp hw
        exact miss_len (hrow v hv)) (ts := List.range b.traits.length) (s := [(zeros b, 1)]) (Γ := ET (encB b) (tupD r) [(zeros b, 1)] [] .no .no .no .no) ⟨⟨_, rfl⟩, ⟨by simp, by simp⟩, by
        rw [List.length_range]
        have : 3 ^ b.traits.length ≤ 3 ^ 4 := Nat.pow_le_pow_right (by decide) h4
        simp [unf]
        omega, by simp [unf, zeros], fun t ht => List.mem_range.mp ht⟩
  exact ⟨s5, e⟩
abbrev bodyK : MS := mSeq (mSet (setS 8) (mCall 2 F_lot_of_row (mAc (mVar 0) (mAc (mVar 6) mA0)))) (mPutT 3 (mVar 8) (mBin gAdd (mGetT 3 (mVar 8) (mC (.int 0))) (mVar 7)))
abbrev EU (B R : Dat) (found : List (Row × Int)) (s5 s6 s7 s8 : DL.Slot) : DL.Env := [.d B, .d R, .no, .own (.tdct (encR found)), .no, s5, s6, s7, s8]
theorem e_kloop {b : Bk} {R : Dat} {s5 : DL.Slot} {rows : List (Row × Int)} (h1 : rows.length ≤ 1000) (h2 : ∀ p ∈ rows, p.1.length ≤ 7) : ∃ s6 s7 s8, forL (setT 2 (setC (setS 6) (setC (setS 7) setN))) bodyK (rows.map L2.itD) (EU (encB b) R [] s5 .no .no .no) =
    some (.nx, EU (encB b) R (tal [] (rows.map fun p => (lotR b p.1, p.2))) s5 s6 s7 s8) := by
  obtain ⟨Γ', e, ⟨u6, u7, u8, rfl⟩, _⟩ := forL_rem (g := setT 2 (setC (setS 6) (setC (setS 7) setN))) (mb := bodyK) L2.itD
    (fun (left : List (Row × Int)) (acc : List (Row × Int)) Γ => (∃ s6 s7 s8, Γ = EU (encB b) R acc s5 s6 s7 s8) ∧ (acc.map (·.1)).Nodup ∧ acc.length + left.length ≤ 1000 ∧ ∀ p ∈ left, p.1.length ≤ 7)
    (fun acc p => bump acc (lotR b p.1) p.2) (by
      rintro ⟨row, m⟩ left acc _ ⟨⟨s6, s7, s8, rfl⟩, nd, hl, hr⟩
      rw [List.length_cons] at hl
      have hb2 := bump_len (k := lotR b row) (m := m) (l := acc)
      refine ⟨EU (encB b) R (bump acc (lotR b row) m) s5 (.d (tupD row)) (.d (.int m)) (.d (tupD (lotR b row))), ?_, ⟨_, _, _, rfl⟩, bump_nodup nd, by show (bump acc (lotR b row) m).length + left.length ≤ 1000; omega, fun p hp => hr p (List.mem_cons_of_mem _ hp)⟩
      have e1 : setT 2 (setC (setS 6) (setC (setS 7) setN)) (.d (L2.itD (row, m))) (EU (encB b) R acc s5 s6 s7 s8) = some (EU (encB b) R acc s5 (.d (tupD row)) (.d (.int m)) s8) := by simp [L2.itD, tupD]
      unfold forStep
      rw [e1, Option.bind_some]
      refine seq_nx (Γ1 := EU (encB b) R acc s5 (.d (tupD row)) (.d (.int m)) (.d (tupD (lotR b row)))) (set_of (call2 (ev_vd rfl) (ev_vd rfl) (e_lotrow (hr _ List.mem_cons_self)) rfl) rfl) ?_
      exact (bump_of (k := lotR b row) (m := m) (l := acc) rfl (ev_vd rfl) (ev_vd rfl) nd (show _ < 1000000 by omega)).trans rfl) (ts := rows) (s := []) (Γ := EU (encB b) R [] s5 .no .no .no) ⟨⟨_, _, _, rfl⟩, by simp, by simpa using h1, h2⟩
  have ef : tal [] (rows.map fun p => (lotR b p.1, p.2)) = rows.foldl (fun acc p => bump acc (lotR b p.1) p.2) [] := by unfold tal; rw [List.foldl_map]
  rw [ef]
  exact ⟨u6, u7, u8, e⟩
theorem e_par {b : Bk} (hb : OkBk b) {R : Dat} : mPar [2, 3] (mAc (mDisT (mUn gTuple (mLc (mSeqI (mBin gIx (mVar 0) (mC (.int 3)))) (setS 4) mYes (mC (.int 0)) [4])) (mC (.int 1))) (mAc mDictT mA0)) [.d (encB b), .d R, .no, .no, .no, .no, .no, .no, .no] = some (.nx, ET (encB b) R [(zeros b, 1)] [] .no .no .no .no) := by
  have h7 := hb.2.2.1
  have e := lc_map (mi := mSeqI (mBin gIx (mVar 0) (mC (.int 3)))) (g := setS 4) (me := mC (.int 0)) (vs := [4]) (Γ := [.d (encB b), .d R, .no, .no, .no, .no, .no, .no, .no]) (Γ0 := [.d (encB b), .d R, .no, .no, .no, .no, .no, .no, .no]) (ts := b.kinds) encK (fun _ => .int 0) (by simp [encB]) rfl (fun k _ => by simp [lcStep]) (by show _ ≤ 1000000; omega)
  have ez : b.kinds.map (fun _ => PyData.int 0) = (zeros b).map PyData.int := by
    unfold zeros
    rw [List.map_replicate, List.map_const']
  rw [ez] at e
  have ed : mDisT (mUn gTuple (mLc (mSeqI (mBin gIx (mVar 0) (mC (.int 3)))) (setS 4) mYes (mC (.int 0)) [4])) (mC (.int 1)) [.d (encB b), .d R, .no, .no, .no, .no, .no, .no, .no] = some (.own (.tdct (encR [(zeros b, 1)])), [.d (encB b), .d R, .no, .no, .no, .no, .no, .no, .no]) := by
    unfold mDisT
    rw [un_of (g := gTuple) (r := some (.d (tupD (zeros b)), [.d (encB b), .d R, .no, .no, .no, .no, .no, .no, .no])) e (by simp [gTuple, tupD])]
    simp only [Option.bind_some, tupD, mC, keysOf_ints]
    rfl
  have ea : mAc (mDisT (mUn gTuple (mLc (mSeqI (mBin gIx (mVar 0) (mC (.int 3)))) (setS 4) mYes (mC (.int 0)) [4])) (mC (.int 1))) (mAc mDictT mA0) [.d (encB b), .d R, .no, .no, .no, .no, .no, .no, .no] = some ([.own (.tdct (encR [(zeros b, 1)])), .own (.tdct [])], [.d (encB b), .d R, .no, .no, .no, .no, .no, .no, .no]) := ac_of ed (ac_of rfl rfl)
  unfold mPar
  rw [ea]
  rfl
theorem fin_bounds {b : Bk} (hb : OkBk b) {r : Row} (hr : OkR b r) : (rowsF b r b.traits.length).length ≤ 1000 ∧ ∀ p ∈ rowsF b r b.traits.length, p.1.length ≤ 7 := by
  obtain ⟨g, h⟩ := rowsF_unf (b := b) (r := r) b.traits.length
  have hrd : ∀ t, -1 ≤ rd r t := fun t => by
    by_cases ht : t < b.traits.length
    · exact ((ok_rd hr).2 t ht).1
    · unfold rd; rw [List.getElem?_eq_none (by rw [(ok_rd hr).1]; omega)]; exact Int.le_refl _
  obtain ⟨v1, _⟩ := vecs_eq hb.2.2.2.2.1 hrd b.traits.length
  obtain ⟨w1, _⟩ := wrows_on hr b.traits.length (Nat.le_refl _)
  obtain ⟨b1, b2⟩ := good_bounds g
  have hw := wholes_len hb.1
  have hl : (unf (rowsF b r b.traits.length)).length ≤ 81 := by
    rw [h.length_eq, v1, List.length_map, w1, full_eq]
    exact Nat.le_trans (List.length_filter_le _ _) hw
  refine ⟨by omega, fun p hp => ?_⟩
  have := h.mem_iff.mp (b2 p hp).2
  rw [v1] at this
  obtain ⟨w, _, e⟩ := List.mem_map.mp this
  rw [← e]
  unfold vecW
  rw [List.length_map]
  exact hb.2.2.1
def talD (b : Bk) (r : Row) : List Dat := (sortT (talW b (onI b r))).map L2.itD
theorem e_tally_from {b : Bk} (hb : OkBk b) {r : Row} (hr : OkR b r) : F_tally_from [.d (encB b), .d (tupD r)] = some (.d (.tuple (talD b r)), [.d (encB b), .d (tupD r)]) := by
  obtain ⟨s5, e1⟩ := e_tloop hb hr
  obtain ⟨f1, f2⟩ := fin_bounds hb hr
  obtain ⟨s6, s7, s8, e2⟩ := e_kloop (b := b) (R := tupD r) (s5 := s5) f1 f2
  refine ev_runx (EU (encB b) (tupD r) (lotsF b r) s5 s6 s7 s8) ?_
  refine seq_nx (e_par hb) ?_
  refine seq_nx ((for_of (seqO_of (call1 (ev_vd rfl) rfl (e_traits hb.1) rfl))).trans e1) ?_
  refine seq_nx ((for_of (itemsT_of rfl)).trans e2) ?_
  refine ret_of (s := .d (.tuple (talD b r))) (un_of (sortI_of rfl) ?_) rfl
  rw [show tal [] ((rowsF b r b.traits.length).map fun p => (lotR b p.1, p.2)) = lotsF b r from rfl, lots_eq hb hr]
  simp [gTuple, talD]
theorem e_tally_from_z {b : Bk} (hb : OkBk b) {r : Row} (hr : OkR b r) : F_tally_from_z [.d (encB b), .d (tupD r)] = some (.z (talD b r), [.d (encB b), .d (tupD r)]) := by
  obtain ⟨s5, e1⟩ := e_tloop hb hr
  obtain ⟨f1, f2⟩ := fin_bounds hb hr
  obtain ⟨s6, s7, s8, e2⟩ := e_kloop (b := b) (R := tupD r) (s5 := s5) f1 f2
  refine ev_runx (EU (encB b) (tupD r) (lotsF b r) s5 s6 s7 s8) ?_
  refine seq_nx (e_par hb) ?_
  refine seq_nx ((for_of (seqO_of (call1 (ev_vd rfl) rfl (e_traits hb.1) rfl))).trans e1) ?_
  refine seq_nx ((for_of (itemsT_of rfl)).trans e2) ?_
  refine ret_of (s := .z (talD b r)) (un_of (sortI_of rfl) ?_) rfl
  rw [show tal [] ((rowsF b r b.traits.length).map fun p => (lotR b p.1, p.2)) = lotsF b r from rfl, lots_eq hb hr]
  simp [gTupZ, talD]
def noneR (b : Bk) : Row := List.replicate b.traits.length (-1)
theorem noneR_ok {b : Bk} (hb : OkTs b.traits) : OkR b (noneR b) := by
  have gen : ∀ ts : List (Str × Int × Int), (∀ t ∈ ts, 1 ≤ t.2.1 ∧ t.2.1 ≤ 2) → PySem.W.EachIs (fun t x => -1 ≤ x ∧ x ≤ t.2.1) ts (List.replicate ts.length (-1)) := fun ts => by
    induction ts with
    | nil => exact fun _ => .nil
    | cons t r ih => exact fun h => .cons ⟨by omega, by have := h t List.mem_cons_self; omega⟩ (ih fun x hx => h x (List.mem_cons_of_mem _ hx))
  exact gen _ hb.2.2
theorem on_none {b : Bk} (hb : OkTs b.traits) : onI b (noneR b) = wholesI b := by
  unfold onI
  refine List.filter_eq_self.mpr fun w _ => ?_
  unfold goesI noneR
  rw [List.all_eq_true]
  intro q hq
  have := (List.mem_replicate.mp (List.of_mem_zip hq).1).2
  simp [this]
def talA (b : Bk) : List (Row × Int) := sortT (talW b (wholesI b))
theorem e_tally {b : Bk} (hb : OkBk b) : F_tally [.d (encB b)] = some (.d (.tuple ((talA b).map L2.itD)), [.d (encB b)]) := by
  have e := e_tally_from hb (noneR_ok hb.1)
  have e0 := e_nothing hb.1
  unfold talD at e
  rw [on_none hb.1] at e
  refine ev_runx [.d (encB b)] ?_
  exact ret_of (call2 (ev_vd rfl) (call1 (ev_vd rfl) rfl e0 rfl) e rfl) rfl
theorem e_tally_z {b : Bk} (hb : OkBk b) : F_tally_z [.d (encB b)] = some (.z ((talA b).map L2.itD), [.d (encB b)]) := by
  have e := e_tally_from_z hb (noneR_ok hb.1)
  have e0 := e_nothing hb.1
  unfold talD at e
  rw [on_none hb.1] at e
  refine ev_runx [.d (encB b)] ?_
  exact ret_of (call2 (ev_vd rfl) (call1 (ev_vd rfl) rfl e0 rfl) e rfl) rfl
end K60

set_option Elab.async false
set_option linter.all false
set_option maxRecDepth 100000
set_option maxHeartbeats 4000000
namespace K60
open PySem DL
/-! ### sums over a tally -/
theorem sum_rep (a : Int) : ∀ n : Nat, (List.replicate n a).sum = (n : Int) * a
  | 0 => by simp
  | n + 1 => by rw [List.replicate_succ, List.sum_cons, sum_rep a n, Int.natCast_add, Int.add_mul]; omega
theorem sum_unf {f : Row → Int} : ∀ {T : List (Row × Int)}, (∀ p ∈ T, 1 ≤ p.2) → (T.map fun p => f p.1 * p.2).sum = ((unf T).map f).sum
  | [], _ => rfl
  | p :: r, h => by
    have hp := h p List.mem_cons_self
    rw [List.map_cons, List.sum_cons, unf_cons, List.map_append, List.sum_append, List.map_replicate, sum_rep, sum_unf fun x hx => h x (List.mem_cons_of_mem _ hx), Int.toNat_of_nonneg (by omega), Int.mul_comm]
theorem perm_sum {l m : List Int} (h : l.Perm m) : l.sum = m.sum := by
  induction h with
  | nil => rfl
  | cons a _ ih => rw [List.sum_cons, List.sum_cons, ih]
  | swap a b l => simp only [List.sum_cons]; omega
  | trans _ _ h1 h2 => exact h1.trans h2
def lotsI (b : Bk) : List Row := (wholesI b).map fun w => castN (toldN b w)
theorem good_perm {l m : List (Row × Int)} (h : l.Perm m) (g : Good m) : Good l := ⟨((h.map _).nodup_iff).mpr g.nd, fun p hp => g.pos p (h.mem_iff.mp hp)⟩
theorem talA_facts (b : Bk) : Good (talA b) ∧ (unf (talA b)).Perm (lotsI b) := by
  obtain ⟨g, h⟩ := talW_good b (wholesI b)
  have hp : (talA b).Perm (talW b (wholesI b)) := sortT_perm _
  exact ⟨good_perm hp g, (hp.flatMap_right _).trans h⟩
theorem tal_sum (b : Bk) (f : Row → Int) : ((talA b).map fun p => f p.1 * p.2).sum = ((lotsI b).map f).sum := by
  obtain ⟨g, h⟩ := talA_facts b
  rw [sum_unf g.pos]
  exact perm_sum (h.map f)
theorem sum_ind {α : Type} (P : α → Bool) : ∀ l : List α, (l.map fun x => if P x then (1 : Int) else 0).sum = ((l.filter P).length : Int)
  | [] => rfl
  | a :: l => by
    rw [List.map_cons, List.sum_cons, sum_ind P l, List.filter_cons]
    split
    · rw [List.length_cons]; omega
    · omega
theorem tal_filter (b : Bk) (P : Row → Bool) : (((talA b).filter fun p => P p.1).map (·.2)).sum = (((lotsI b).filter P).length : Int) := by
  rw [← sum_ind P, ← tal_sum b fun l => if P l then 1 else 0]
  have : ∀ T : List (Row × Int), ((T.filter fun p => P p.1).map (·.2)).sum = (T.map fun p => (if P p.1 then (1 : Int) else 0) * p.2).sum := fun T => by
    induction T with
    | nil => rfl
    | cons p r ih =>
      rw [List.filter_cons, List.map_cons, List.sum_cons, ← ih]
      split
      · rename_i h; rw [List.map_cons, List.sum_cons]; omega
      · rename_i h; omega
  exact this _
theorem tal_find (b : Bk) (l : Row) : findI (talA b) l = ((lotsI b).count l : Int) := by
  obtain ⟨g, h⟩ := talA_facts b
  rw [← count_unf g, h.count_eq]
/-! ### what is asked of a tally -/
theorem pairsZ_enc : ∀ (l : List (Row × Int)), pairsZ (l.map L2.itD) = some (encR l)
  | [] => rfl
  | p :: r => by
    rw [List.map_cons]
    show ((keysOf (p.1.map PyData.int)).bind fun k => (pairsZ (r.map L2.itD)).map ((k, PyData.int p.2) :: ·)) = _
    rw [keysOf_ints, pairsZ_enc r]
    rfl
theorem e_telling {b : Bk} (hb : OkBk b) {l : Row} : F_many_telling [.d (encB b), .d (tupD l)] = some (.d (.int ((lotsI b).count l : Int)), [.d (encB b), .d (tupD l)]) := by
  have ez := e_tally_z hb
  obtain ⟨g, _⟩ := talA_facts b
  have e1 : mUn gDictZ (mCall 1 F_tally_z (mAc (mVar 0) mA0)) [.d (encB b), .d (tupD l)] = some (.own (.tdct (encR (talA b))), [.d (encB b), .d (tupD l)]) := by
    refine un_of (call1 (ev_vd rfl) rfl ez rfl) ?_
    unfold gDictZ
    simp only [pairsZ_enc, Option.bind_some]
    rw [if_pos (enc_nodup g.nd)]
  have e2 : mGetO (mUn gDictZ (mCall 1 F_tally_z (mAc (mVar 0) mA0))) (mVar 1) (mC (.int 0)) [.d (encB b), .d (tupD l)] = some (.d (.int ((lotsI b).count l : Int)), [.d (encB b), .d (tupD l)]) := by
    have ev : mVar 1 [.d (encB b), .d (tupD l)] = some (.d (tupD l), [.d (encB b), .d (tupD l)]) := ev_vd rfl
    unfold mGetO
    rw [e1]
    simp only [Option.bind_some]
    rw [ev]
    simp only [Option.bind_some, tupD, mC, keysOf_ints, findT_enc, tal_find]
  exact ev_runx [.d (encB b), .d (tupD l)] (ret_of e2 rfl)
theorem e_strange {b : Bk} (hb : OkBk b) : F_many_strange [.d (encB b)] = some (.d (.int ((lotsI b).count [] : Int)), [.d (encB b)]) := by
  have e := e_telling hb (l := [])
  exact ev_runx [.d (encB b)] (ret_of (call2 (e := tupD []) (ev_vd rfl) (by simp [tupD]) e rfl) rfl)
theorem sum_of {ns : List Int} {Γ : DL.Env} : gSc1 sumD (.own (.lst (ns.map PyData.int))) Γ = some (.d (.int ns.sum), Γ) := by
  letI : TabsC := ⟨[]⟩
  have e2 : sumD (.list (ns.map PyData.int)) = some (.int ns.sum) := by
    have e3 := intsOf_map ns
    show (intsOf _).map _ = _
    erw [e3]
    rfl
  simp only [gSc1, ev_viewo, ev_datl, Option.bind_some, e2]
theorem all_of {bs : List Bool} {Γ : DL.Env} : gSc1 allD (.own (.lst (bs.map PyData.bool))) Γ = some (.d (.bool (bs.all id)), Γ) := by
  simp only [gSc1, ev_viewo, ev_datl, Option.bind_some, allD_map]
theorem tal_len (b : Bk) (hb : OkTs b.traits) : (talA b).length ≤ 81 := by
  obtain ⟨g, h⟩ := talA_facts b
  have h1 := (good_bounds g).1
  rw [h.length_eq] at h1
  unfold lotsI at h1
  rw [List.length_map] at h1
  exact Nat.le_trans h1 (wholes_len hb)
theorem its_in {k : Int} {its : Row} {Γ : DL.Env} {i j : Nat} (h1 : Γ[i]? = some (.d (.int k))) (h2 : Γ[j]? = some (.d (tupD its))) : mBin gIn (mVar i) (mVar j) Γ = some (.d (.bool (its.contains k)), Γ) := by
  refine bin_of (ev_vd h1) (ev_vd h2) ?_
  simp [gIn, -List.contains_eq_mem]
def fitL (lot its : Row) : Bool := lot.all fun k => its.contains k
theorem e_fitting {b : Bk} (hb : OkBk b) {lot : Row} (hl : lot.length ≤ 1000) : F_many_fitting [.d (encB b), .d (tupD lot)] = some (.d (.int (((lotsI b).filter (fitL lot)).length : Int)), [.d (encB b), .d (tupD lot)]) := by
  have et := e_tally hb
  have h81 := tal_len b hb.1
  have e := lc_filter (mi := mSeqI (mCall 1 F_tally (mAc (mVar 0) mA0))) (g := setT 2 (setC (setS 2) (setC (setS 3) setN))) (mt := mTru (mUn (gSc1 allD) (mLc (mSeqI (mVar 1)) (setS 4) mYes (mBin gIn (mVar 4) (mVar 2)) [4]))) (me := mVar 3) (vs := [2, 3]) (Γ := [.d (encB b), .d (tupD lot), .no, .no, .no]) (Γ0 := [.d (encB b), .d (tupD lot), .no, .no, .no]) (ts := talA b) L2.itD (fun p => fitL lot p.1) (fun p => .int p.2)
    (seqI_of (call1 (ev_vd rfl) rfl et rfl)) rfl (fun p _ => by
      obtain ⟨its, m⟩ := p
      have e1 : setT 2 (setC (setS 2) (setC (setS 3) setN)) (.d (L2.itD (its, m))) (wipeE [.d (encB b), .d (tupD lot), .no, .no, .no] [2, 3]) = some [.d (encB b), .d (tupD lot), .d (tupD its), .d (.int m), .no] := by simp [L2.itD, tupD]
      have e2 := lc_map (mi := mSeqI (mVar 1)) (g := setS 4) (me := mBin gIn (mVar 4) (mVar 2)) (vs := [4]) (Γ := [.d (encB b), .d (tupD lot), .d (tupD its), .d (.int m), .no]) (Γ0 := [.d (encB b), .d (tupD lot), .d (tupD its), .d (.int m), .no]) (ts := lot) PyData.int (fun k => .bool (its.contains k)) (seqI_of (ev_vd rfl)) rfl (fun k _ => by
        unfold lcStep
        simp only [ev_setS, wipeE]
        simp [its_in (Γ := [.d (encB b), .d (tupD lot), .d (tupD its), .d (.int m), .d (.int k)]) (i := 4) (j := 2) rfl rfl, -List.contains_eq_mem]) (by show _ ≤ 1000000; omega)
      have e3 : mTru (mUn (gSc1 allD) (mLc (mSeqI (mVar 1)) (setS 4) mYes (mBin gIn (mVar 4) (mVar 2)) [4])) [.d (encB b), .d (tupD lot), .d (tupD its), .d (.int m), .no] = some (fitL lot its, [.d (encB b), .d (tupD lot), .d (tupD its), .d (.int m), .no]) := by
        refine tru_of (un_of e2 ?_)
        have : lot.map (fun k => PyData.bool (its.contains k)) = (lot.map fun k => its.contains k).map PyData.bool := by rw [List.map_map]; rfl
        rw [this, all_of]
        unfold fitL
        rw [List.all_map]
        rfl
      unfold lcStep
      rw [e1, Option.bind_some, e3, Option.bind_some]
      cases fitL lot its <;> simp) (by show _ ≤ 1000000; omega)
  refine ev_runx [.d (encB b), .d (tupD lot), .no, .no, .no] (ret_of (s := .d (.int (((lotsI b).filter (fitL lot)).length : Int))) (Γ1 := [.d (encB b), .d (tupD lot), .no, .no, .no]) (un_of e ?_) rfl)
  have : ((talA b).filter fun p => fitL lot p.1).map (fun p => PyData.int p.2) = (((talA b).filter fun p => fitL lot p.1).map (·.2)).map PyData.int := by rw [List.map_map]; rfl
  rw [this, sum_of, tal_filter]
end K60

set_option Elab.async false
set_option linter.all false
set_option maxRecDepth 100000
set_option maxHeartbeats 4000000
namespace K60
open PySem DL
theorem tal_in {b : Bk} {p : Row × Int} (h : p ∈ talA b) : ∃ w, w ∈ wholesI b ∧ p.1 = castN (toldN b w) := by
  obtain ⟨g, hp⟩ := talA_facts b
  have := (good_bounds g).2 p h
  have := hp.mem_iff.mp this.2
  unfold lotsI at this
  obtain ⟨w, hw, e⟩ := List.mem_map.mp this
  exact ⟨w, hw, e.symm⟩
theorem tal_p7 {b : Bk} (hb : OkBk b) {p : Row × Int} (h : p ∈ talA b) : p.1.length ≤ 7 ∧ 1 ≤ p.2 ∧ p.2 ≤ 81 := by
  obtain ⟨g, hp⟩ := talA_facts b
  obtain ⟨w, _, e⟩ := tal_in h
  have h7 := hb.2.2.1
  have h1 := told_len (b := b) (r := w)
  have h2 := ((good_bounds g).2 p h).1
  rw [hp.length_eq] at h2
  unfold lotsI at h2
  rw [List.length_map] at h2
  have h3 := wholes_len hb.1
  refine ⟨by rw [e]; unfold castN; rw [List.length_map]; omega, g.pos p h, by omega⟩
theorem set12 {b : Bk} {its : Row} {m : Int} {i j : Nat} {Γ : DL.Env} (hi : i < Γ.length) (hj : j < Γ.length) : setT 2 (setC (setS i) (setC (setS j) setN)) (.d (L2.itD (its, m))) Γ = some ((Γ.set i (.d (tupD its))).set j (.d (.int m))) := by
  simp [L2.itD, tupD, hi, hj]
/-! many_sure -/
theorem e_sure {b : Bk} (hb : OkBk b) : F_many_sure [.d (encB b)] = some (.d (.int (((lotsI b).filter fun l => decide (l.length = 1)).length : Int)), [.d (encB b)]) := by
  have et := e_tally hb
  have h81 := tal_len b hb.1
  have e := lc_filter (mi := mSeqI (mCall 1 F_tally (mAc (mVar 0) mA0))) (g := setT 2 (setC (setS 1) (setC (setS 2) setN))) (mt := mB (mBin gEq (mUn (gSc1 lenD) (mVar 1)) (mC (.int 1)))) (me := mVar 2) (vs := [1, 2]) (Γ := [.d (encB b), .no, .no]) (Γ0 := [.d (encB b), .no, .no]) (ts := talA b) L2.itD (fun p => decide (p.1.length = 1)) (fun p => .int p.2)
    (seqI_of (call1 (ev_vd rfl) rfl et rfl)) rfl (fun p hp => by
      obtain ⟨its, m⟩ := p
      have h7 := (tal_p7 hb hp).1
      by_cases hc : its.length = 1
      · simp [lcStep, L2.itD, gEq, hc]
      · have : ¬ ((its.length : Int) = 1) := by omega
        simp [lcStep, L2.itD, gEq, hc, this]) (by show _ ≤ 1000000; omega)
  refine ev_runx [.d (encB b), .no, .no] (ret_of (s := .d (.int (((lotsI b).filter fun l => decide (l.length = 1)).length : Int))) (Γ1 := [.d (encB b), .no, .no]) (un_of e ?_) rfl)
  have : ((talA b).filter fun p => decide (p.1.length = 1)).map (fun p => PyData.int p.2) = (((talA b).filter fun p => decide (p.1.length = 1)).map (·.2)).map PyData.int := by rw [List.map_map]; rfl
  rw [this, sum_of, tal_filter b fun l => decide (l.length = 1)]
/-! columns, how many whole readings -/
theorem rowsI_len : ∀ (cols : List (List Int)) (fd : List Row), ((cols.foldl addCol fd).length : Int) = (cols.map fun c => (c.length : Int)).foldl (· * ·) (fd.length : Int)
  | [], fd => rfl
  | c :: cols, fd => by
    rw [List.foldl_cons, rowsI_len cols, List.map_cons, List.foldl_cons, flatMap_len, Int.natCast_mul]
theorem e_colfrom {b : Bk} (hb : OkBk b) : F_columns_from [.d (encB b), .d (tupD (noneR b))] = some (.own (.lst ((b.traits.map fun t => rngI (t.2.1 + 1)).map encC)), [.d (encB b), .d (tupD (noneR b))]) := by
  obtain ⟨h2, h4, hts⟩ := hb.1
  obtain ⟨Γ', e, ⟨s3, s4, s5, s6, rfl⟩, _⟩ := forL_rem (g := setT 2 (setC (setT 3 (setC (setS 4) (setC (setS 5) (setC (setS 6) setN)))) (setC (setS 3) setN))) (mb := mDrop (mApp 2 (mIf (mB (mBin gEq (mVar 3) (mC (.int (-1))))) (mUn gListRg (mBin gAdd (mVar 5) (mC (.int 1)))) (mLst (mDc (mVar 3) mD0)))))
    (fun t => PyData.tuple [encT t, .int (-1)]) (fun (left : List (Str × Int × Int)) (f : List (List Int)) Γ => (∃ s3 s4 s5 s6, Γ = [.d (encB b), .d (tupD (noneR b)), .own (.lst (f.map encC)), s3, s4, s5, s6]) ∧ f.length + left.length ≤ 100 ∧ ∀ t ∈ left, 1 ≤ t.2.1 ∧ t.2.1 ≤ 2) (fun f t => f ++ [rngI (t.2.1 + 1)]) (by
      rintro t r f _ ⟨⟨s3, s4, s5, s6, rfl⟩, hl, hk⟩
      have q := hk t List.mem_cons_self
      rw [List.length_cons] at hl
      have hf : f.length ≤ 999999 := by omega
      have hf2 : f.length < 1000000 := by omega
      have h1 : 0 ≤ t.2.1 + 1 ∧ t.2.1 + 1 ≤ 1000000 := by omega
      have e2 : rangeD (t.2.1 + 1) = (rngI (t.2.1 + 1)).map PyData.int := by unfold rangeD rngI; rw [List.map_map]; rfl
      refine ⟨[.d (encB b), .d (tupD (noneR b)), .own (.lst ((f ++ [rngI (t.2.1 + 1)]).map encC)), .d (.int (-1)), .d (.str t.1), .d (.int t.2.1), .d (.int t.2.2)], ?_, ⟨_, _, _, _, rfl⟩, by rw [List.length_append]; simp; omega, fun x hx => hk x (List.mem_cons_of_mem _ hx)⟩
      simp [forStep, encT, gEq, gListRg, h1, e2, encC, hf, hf2]) (ts := b.traits) (s := []) (Γ := [.d (encB b), .d (tupD (noneR b)), .own (.lst []), .no, .no, .no, .no]) ⟨⟨_, _, _, _, rfl⟩, by simp only [List.length_nil]; omega, hts⟩
  rw [foldl_snoc] at e
  have ez : zipL (b.traits.map encT) ((noneR b).map PyData.int) = b.traits.map fun t => PyData.tuple [encT t, .int (-1)] := by
    unfold zipL noneR
    have : ∀ ts : List (Str × Int × Int), ((ts.map encT).zip ((List.replicate ts.length (-1)).map PyData.int)).map (fun q => PyData.tuple [q.1, q.2]) = ts.map fun t => PyData.tuple [encT t, .int (-1)] := fun ts => by
      induction ts with
      | nil => rfl
      | cons t r ih => rw [List.length_cons, List.replicate_succ, List.map_cons, List.map_cons, List.zip_cons_cons, List.map_cons, ih]; rfl
    exact this _
  have hz : mZip (mBin gIx (mVar 0) (mC (.int 2))) (mVar 1) [.d (encB b), .d (tupD (noneR b)), .own (.lst []), .no, .no, .no, .no] = some (b.traits.map (fun t => PyData.tuple [encT t, .int (-1)]), [.d (encB b), .d (tupD (noneR b)), .own (.lst []), .no, .no, .no, .no]) := by
    rw [← ez]
    exact zip_of (l1 := b.traits.map encT) (l2 := (noneR b).map PyData.int) (Γ1 := [.d (encB b), .d (tupD (noneR b)), .own (.lst []), .no, .no, .no, .no]) (by simp [encB]) (ev_vd rfl)
  refine ev_runx [.d (encB b), .d (tupD (noneR b)), .no, s3, s4, s5, s6] ?_
  refine seq_nx (Γ1 := [.d (encB b), .d (tupD (noneR b)), .own (.lst []), .no, .no, .no, .no]) (by simp) ?_
  refine seq_nx ((for_of hz).trans e) ?_
  exact ret_of (ev_vo rfl) (by simp)
theorem e_manyfrom {b : Bk} (hb : OkBk b) : F_many_from [.d (encB b), .d (tupD (noneR b))] = some (.d (.int ((wholesI b).length : Int)), [.d (encB b), .d (tupD (noneR b))]) := by
  have ec := e_colfrom hb
  obtain ⟨h2, h4, hts⟩ := hb.1
  obtain ⟨Γ', e, ⟨s3, rfl⟩, _⟩ := forL_rem (g := setS 3) (mb := mAugM 2 (mUn (gSc1 lenD) (mVar 3))) encC (fun (left : List (List Int)) (m : Int) Γ => (∃ s3, Γ = [.d (encB b), .d (tupD (noneR b)), .d (.int m), s3]) ∧ ∀ c ∈ left, c.length ≤ 3) (fun m c => m * (c.length : Int)) (by
      rintro c r m _ ⟨⟨s3, rfl⟩, hk⟩
      have q := hk c List.mem_cons_self
      have hm : mulC m (c.length : Int) = true := by simp [mulC]; omega
      refine ⟨_, ?_, ⟨.d (encC c), rfl⟩, fun x hx => hk x (List.mem_cons_of_mem _ hx)⟩
      simp [forStep, mAugM, encC, hm]) (ts := b.traits.map fun t => rngI (t.2.1 + 1)) (s := 1) (Γ := [.d (encB b), .d (tupD (noneR b)), .d (.int 1), .no]) ⟨⟨_, rfl⟩, fun c hc => by
        obtain ⟨t, ht, rfl⟩ := List.mem_map.mp hc
        have q := hts t ht
        exact rngI_le (by omega)⟩
  have ef : (b.traits.map fun t => rngI (t.2.1 + 1)).foldl (fun (m : Int) c => m * (c.length : Int)) 1 = ((wholesI b).length : Int) := by
    unfold wholesI rowsI
    rw [rowsI_len]
    exact (List.foldl_map (f := fun c : List Int => (c.length : Int))).symm
  rw [ef] at e
  refine ev_runx [.d (encB b), .d (tupD (noneR b)), .d (.int ((wholesI b).length : Int)), s3] ?_
  refine seq_nx (Γ1 := [.d (encB b), .d (tupD (noneR b)), .d (.int 1), .no]) rfl ?_
  refine seq_nx ((for_of (seqO_of (call2 (ev_vd rfl) (ev_vd rfl) ec rfl))).trans e) ?_
  rfl
theorem kia_r {F G N : FS} {B R : Dat} {T : List (Row × Int)} {S W : Int} (eF : F [.d B] = some (.d (.tuple (T.map L2.itD)), [.d B])) (eN : N [.d B] = some (.d R, [.d B])) (eG : G [.d B, .d R] = some (.d (.int W), [.d B, .d R])) (h7 : ∀ p ∈ T, p.1.length ≤ 7) (hl : T.length ≤ 1000) (hs : (T.map fun p => (p.1.length : Int) * p.2).sum = S) :
    runF 1 3 [] (mRet 1 (mTup (mDc (mUn (gSc1 sumD) (mLc (mSeqI (mCall 1 F (mAc (mVar 0) mA0))) (setT 2 (setC (setS 1) (setC (setS 2) setN))) mYes (mBin gMul (mUn (gSc1 lenD) (mVar 1)) (mVar 2)) [1, 2])) (mDc (mCall 2 G (mAc (mVar 0) (mAc (mCall 1 N (mAc (mVar 0) mA0)) mA0))) mD0)))) [.d B] = some (.d (.tuple [.int S, .int W]), [.d B]) := by
  have e := lc_map (mi := mSeqI (mCall 1 F (mAc (mVar 0) mA0))) (g := setT 2 (setC (setS 1) (setC (setS 2) setN))) (me := mBin gMul (mUn (gSc1 lenD) (mVar 1)) (mVar 2)) (vs := [1, 2]) (Γ := [.d B, .no, .no]) (Γ0 := [.d B, .no, .no]) (ts := T) L2.itD (fun p => .int ((p.1.length : Int) * p.2))
    (seqI_of (call1 (ev_vd rfl) rfl eF rfl)) rfl (fun p hp => by
      obtain ⟨its, m⟩ := p
      have h7 := h7 _ hp
      have hm : mulC (its.length : Int) m = true := by simp only at h7; simp [mulC]; omega
      exact lc_step (Γ1 := [.d B, .d (tupD its), .d (.int m)]) (Γ2 := [.d B, .d (tupD its), .d (.int m)]) rfl (mul_of (len_tup (ev_vd rfl)) (ev_vd rfl) hm) rfl) (by show _ ≤ 1000000; omega)
  have hs2 : T.map (fun p => PyData.int ((p.1.length : Int) * p.2)) = (T.map fun p => (p.1.length : Int) * p.2).map PyData.int := by rw [List.map_map]; rfl
  rw [hs2] at e
  refine ev_runx [.d B, .no, .no] ?_
  have e1 : mUn (gSc1 sumD) (mLc (mSeqI (mCall 1 F (mAc (mVar 0) mA0))) (setT 2 (setC (setS 1) (setC (setS 2) setN))) mYes (mBin gMul (mUn (gSc1 lenD) (mVar 1)) (mVar 2)) [1, 2]) [.d B, .no, .no] = some (.d (.int S), [.d B, .no, .no]) := un_of e (by rw [sum_of, hs])
  exact ret_of (tup_of (Γ1 := [.d B, .no, .no]) (dc_d e1 (dc_d (call2 (ev_vd rfl) (call1 (ev_vd rfl) rfl eN rfl) eG rfl) rfl)) (by simp)) rfl
theorem e_kinds_in_all {b : Bk} (hb : OkBk b) : F_kinds_in_all [.d (encB b)] = some (.d (.tuple [.int ((lotsI b).map fun l => (l.length : Int)).sum, .int ((wholesI b).length : Int)]), [.d (encB b)]) := by
  have h81 := tal_len b hb.1
  exact kia_r (e_tally hb) (e_nothing hb.1) (e_manyfrom hb) (fun p hp => (tal_p7 hb hp).1) (by omega) (tal_sum b fun l => (l.length : Int))
end K60

set_option Elab.async false
set_option linter.all false
set_option maxRecDepth 100000
set_option maxHeartbeats 4000000
namespace K60
open PySem DL
/-! many_sure_of_group -/
def allG (gs : List Str) : Bool := !gs.isEmpty && gs.all fun g => decide (g = gs.headD "")
def grpI (b : Bk) (l : Row) : List Str := l.map fun k => groupK b k.toNat
def oneG (b : Bk) (l : Row) : Bool := allG (grpI b l)
theorem group_ok {b : Bk} (hb : OkBk b) {k : Nat} (h : k < b.kinds.length) : PyData.strOk (groupK b k) = true := by
  have e : b.kinds[k]? = some b.kinds[k] := List.getElem?_eq_getElem h
  have := (hb.2.2.2.1 _ (List.getElem_mem h)).2
  have e2 : groupK b k = b.kinds[k].2.1 := by simp [groupK, e]
  rw [e2]
  rcases this with z | z <;> rw [z] <;> decide +kernel
abbrev bodyG : MS := mSeq (mSet (setS 4) (mLc (mSeqI (mVar 2)) (setS 5) mYes (mBin gIx (mBin gIx (mBin gIx (mVar 0) (mC (.int 3))) (mVar 5)) (mC (.int 1))) [5])) (mAug 1 (fun i j => i + j) (mIf (mAndT (mTru (mVar 4)) (mTru (mUn (gSc1 allD) (mLc (mSeqI (mVar 4)) (setS 6) mYes (mBin gEq (mVar 6) (mBin gIx (mVar 4) (mC (.int 0)))) [6])))) (mVar 3) (mC (.int 0))))
theorem e_gall {B L : Dat} {n m : Int} {gs : List Str} (hg : ∀ g ∈ gs, PyData.strOk g = true) (hl : gs.length ≤ 1000) : ∃ s4, mAug 1 (fun i j => i + j) (mIf (mAndT (mTru (mVar 4)) (mTru (mUn (gSc1 allD) (mLc (mSeqI (mVar 4)) (setS 6) mYes (mBin gEq (mVar 6) (mBin gIx (mVar 4) (mC (.int 0)))) [6])))) (mVar 3) (mC (.int 0))) [.d B, .d (.int n), .d L, .d (.int m), .own (.lst (gs.map PyData.str)), .no, .no] =
    some (.nx, [.d B, .d (.int (n + if allG gs then m else 0)), .d L, .d (.int m), s4, .no, .no]) := by
  match gs with
  | [] =>
    refine ⟨.own (.lst []), ?_⟩
    simp [mAug, allG, truD]
  | g :: r =>
    have e := lc_map (mi := mSeqI (mVar 4)) (g := setS 6) (me := mBin gEq (mVar 6) (mBin gIx (mVar 4) (mC (.int 0)))) (vs := [6]) (Γ := [.d B, .d (.int n), .d L, .d (.int m), .own (.lst ((g :: r).map PyData.str)), .no, .no]) (Γ0 := [.d B, .d (.int n), .d L, .d (.int m), .d (.list ((g :: r).map PyData.str)), .no, .no]) (ts := g :: r) PyData.str (fun x => .bool (decide (x = g))) (by simp) rfl (fun x hx => by
      have a3 : L2.atI (PyData.str g :: r.map PyData.str) 0 = some (.str g) := atI_nat (i := 0) rfl
      have eq := ev_eqss (hg x hx) (hg g List.mem_cons_self)
      refine lc_step (Γ1 := [.d B, .d (.int n), .d L, .d (.int m), .d (.list ((g :: r).map PyData.str)), .no, .d (.str x)]) (Γ2 := [.d B, .d (.int n), .d L, .d (.int m), .d (.list ((g :: r).map PyData.str)), .no, .d (.str x)]) rfl (bin_of (t := .d (.str g)) (Γ2 := [.d B, .d (.int n), .d L, .d (.int m), .d (.list ((g :: r).map PyData.str)), .no, .d (.str x)]) (ev_vd rfl) ?_ ?_) rfl
      · simp [a3]
      · simp [gEq, eq]) (by show _ ≤ 1000000; omega)
    have eb : (g :: r).map (fun x => PyData.bool (decide (x = g))) = ((g :: r).map fun x => decide (x = g)).map PyData.bool := by rw [List.map_map]; rfl
    rw [eb] at e
    have ea : allG (g :: r) = ((g :: r).map fun x => decide (x = g)).all id := by
      unfold allG
      rw [List.all_map]
      rfl
    have e2 : mTru (mUn (gSc1 allD) (mLc (mSeqI (mVar 4)) (setS 6) mYes (mBin gEq (mVar 6) (mBin gIx (mVar 4) (mC (.int 0)))) [6])) [.d B, .d (.int n), .d L, .d (.int m), .own (.lst ((g :: r).map PyData.str)), .no, .no] = some (allG (g :: r), [.d B, .d (.int n), .d L, .d (.int m), .d (.list ((g :: r).map PyData.str)), .no, .no]) := by
      rw [ea]
      exact tru_of (un_of e all_of)
    have e1 : mTru (mVar 4) [.d B, .d (.int n), .d L, .d (.int m), .own (.lst ((g :: r).map PyData.str)), .no, .no] = some (true, [.d B, .d (.int n), .d L, .d (.int m), .own (.lst ((g :: r).map PyData.str)), .no, .no]) := by simp [truD]
    have e3 := if_of (a := mVar 3) (b := mC (.int 0)) (and_yes e1 e2)
    refine ⟨.d (.list ((g :: r).map PyData.str)), ?_⟩
    unfold mAug
    simp only [List.getElem?_cons_succ, List.getElem?_cons_zero]
    rw [e3]
    cases allG (g :: r) <;> simp
theorem e_sureG {b : Bk} (hb : OkBk b) : F_many_sure_of_group [.d (encB b)] = some (.d (.int (((lotsI b).filter (oneG b)).length : Int)), [.d (encB b)]) := by
  have et := e_tally hb
  obtain ⟨Γ', e, ⟨s2, s3, s4, rfl⟩, _⟩ := forL_rem (g := setT 2 (setC (setS 2) (setC (setS 3) setN))) (mb := bodyG) L2.itD (fun (left : List (Row × Int)) (n : Int) Γ => (∃ s2 s3 s4, Γ = [.d (encB b), .d (.int n), s2, s3, s4, .no, .no]) ∧ ∀ p ∈ left, p ∈ talA b) (fun n p => n + if oneG b p.1 then p.2 else 0) (by
    rintro ⟨its, m⟩ r n _ ⟨⟨s2, s3, s4, rfl⟩, hk⟩
    obtain ⟨w, _, ew⟩ := tal_in (hk _ List.mem_cons_self)
    simp only at ew
    subst ew
    have hlt := told_lt (b := b) (r := w)
    have h7 := told_len (b := b) (r := w)
    have h77 := hb.2.2.1
    have e1 : setT 2 (setC (setS 2) (setC (setS 3) setN)) (.d (L2.itD (castN (toldN b w), m))) [.d (encB b), .d (.int n), s2, s3, s4, .no, .no] = some [.d (encB b), .d (.int n), .d (tupD (castN (toldN b w))), .d (.int m), s4, .no, .no] := set12 (b := b) (by simp) (by simp)
    have e2 := lc_map (mi := mSeqI (mVar 2)) (g := setS 5) (me := mBin gIx (mBin gIx (mBin gIx (mVar 0) (mC (.int 3))) (mVar 5)) (mC (.int 1))) (vs := [5]) (Γ := [.d (encB b), .d (.int n), .d (tupD (castN (toldN b w))), .d (.int m), s4, .no, .no]) (Γ0 := [.d (encB b), .d (.int n), .d (tupD (castN (toldN b w))), .d (.int m), s4, .no, .no]) (ts := toldN b w) (fun k : Nat => PyData.int k) (fun k => .str (groupK b k)) (by
      rw [← cast_it]; exact seqI_of (ev_vd rfl)) rfl (fun k hk => by
      obtain ⟨kd, h1, h2⟩ := group_at (hlt k hk)
      rw [h2]
      simp [lcStep, encB, h1, encK]) (by show _ ≤ 1000000; omega)
    have eg : (toldN b w).map (fun k => PyData.str (groupK b k)) = (grpI b (castN (toldN b w))).map PyData.str := by
      unfold grpI castN
      rw [List.map_map, List.map_map]
      refine List.map_congr_left fun k _ => ?_
      simp
    rw [eg] at e2
    obtain ⟨u4, e3⟩ := e_gall (B := encB b) (L := tupD (castN (toldN b w))) (n := n) (m := m) (gs := grpI b (castN (toldN b w))) (fun g hg => by
      unfold grpI castN at hg
      rw [List.map_map] at hg
      obtain ⟨k, hk, rfl⟩ := List.mem_map.mp hg
      exact group_ok hb (by simpa using hlt k hk)) (by unfold grpI castN; rw [List.length_map, List.length_map]; omega)
    refine ⟨[.d (encB b), .d (.int (n + if oneG b (castN (toldN b w)) then m else 0)), .d (tupD (castN (toldN b w))), .d (.int m), u4, .no, .no], ?_, ⟨_, _, _, rfl⟩, fun p hp => hk p (List.mem_cons_of_mem _ hp)⟩
    unfold forStep
    rw [e1, Option.bind_some]
    exact seq_nx (set_of e2 rfl) e3) (ts := talA b) (s := 0) (Γ := [.d (encB b), .d (.int 0), .no, .no, .no, .no, .no]) ⟨⟨_, _, _, rfl⟩, fun p hp => hp⟩
  have ef : ∀ (T : List (Row × Int)) (n : Int), T.foldl (fun n p => n + if oneG b p.1 then p.2 else 0) n = n + (T.map fun p => (if oneG b p.1 then (1 : Int) else 0) * p.2).sum := fun T => by
    induction T with
    | nil => intro n; simp
    | cons p r ih =>
      intro n
      rw [List.foldl_cons, ih, List.map_cons, List.sum_cons]
      split <;> omega
  rw [ef, tal_sum b fun l => if oneG b l then 1 else 0, sum_ind, Int.zero_add] at e
  refine ev_runx [.d (encB b), .d (.int (((lotsI b).filter (oneG b)).length : Int)), s2, s3, s4, .no, .no] ?_
  refine seq_nx (Γ1 := [.d (encB b), .d (.int 0), .no, .no, .no, .no, .no]) rfl ?_
  refine seq_nx ((for_of (seqI_of (call1 (ev_vd rfl) rfl et rfl))).trans e) ?_
  exact ret_of (ev_vd rfl) rfl
/-! the law's own groups -/
theorem sortU_one {l : List Str} : decide ((sortU l).length = 1) = allG l := by
  cases l with
  | nil => rfl
  | cons g r =>
    have hm : ∀ x, x ∈ sortU (g :: r) ↔ x ∈ g :: r := fun x => sortU_mem
    have nd := sortU_nodup (g :: r)
    unfold allG
    show _ = (true && _)
    rw [Bool.true_and]
    show decide _ = (g :: r).all fun x => decide (x = g)
    by_cases h : ∀ x ∈ g :: r, x = g
    · have e : (g :: r).all (fun x => decide (x = g)) = true := List.all_eq_true.mpr fun x hx => decide_eq_true (h x hx)
      rw [e]
      have h1 : g ∈ sortU (g :: r) := (hm g).mpr List.mem_cons_self
      refine decide_eq_true ?_
      match hs : sortU (g :: r) with
      | [] => rw [hs] at h1; cases h1
      | [x] => rfl
      | x :: y :: q =>
        rw [hs] at hm nd
        have hx := h x ((hm x).mp (by simp))
        have hy := h y ((hm y).mp (by simp))
        rw [List.nodup_cons] at nd
        exact absurd (by rw [hx, hy]; exact List.mem_cons_self) nd.1
    · have e : (g :: r).all (fun x => decide (x = g)) = false := by
        rw [Bool.eq_false_iff]
        intro z
        exact h fun x hx => of_decide_eq_true (List.all_eq_true.mp z x hx)
      rw [e]
      refine decide_eq_false fun z => h fun x hx => ?_
      obtain ⟨y, hy⟩ := List.length_eq_one_iff.mp z
      have h1 := (hm x).mpr hx
      have h2 := (hm g).mpr List.mem_cons_self
      rw [hy] at h1 h2
      rw [List.mem_singleton.mp h1, List.mem_singleton.mp h2]
theorem groups_one {b : Bk} {ns : List Nat} : decide ((groupsN b ns).length = 1) = oneG b (castN ns) := by
  unfold groupsN oneG
  rw [sortU_one]
  unfold grpI castN
  rw [List.map_map]
  congr 1
/-! never told -/
theorem e_never {b : Bk} (hb : OkBk b) : F_never_told [.d (encB b)] = some (.d (tupD (castN ((List.range b.kinds.length).filter fun k : Nat => !(lotsI b).contains [(k : Int)]))), [.d (encB b)]) := by
  have et := e_tally hb
  have h81 := tal_len b hb.1
  have h77 := hb.2.2.1
  obtain ⟨g, hp⟩ := talA_facts b
  have e := dc_opt (mi := mSeqI (mCall 1 F_tally (mAc (mVar 0) mA0))) (g := setT 2 (setC (setS 2) (setC (setS 3) setN))) (mt := mB (mBin gEq (mUn (gSc1 lenD) (mVar 2)) (mC (.int 1)))) (mk := mBin gIx (mVar 2) (mC (.int 0))) (mv := mC (.bool true)) (vs := [2, 3]) (Γ := [.d (encB b), .no, .no, .no, .no]) (Γ0 := [.d (encB b), .no, .no, .no, .no]) (ts := talA b) L2.itD (fun p => match p.1 with | [k] => some (.inl k, .bool true) | _ => none)
    (seqI_of (call1 (ev_vd rfl) rfl et rfl)) rfl (fun p hp => by
      obtain ⟨its, m⟩ := p
      match its with
      | [] => simp [dcStep, L2.itD, gEq]
      | [k] =>
        have a3 : L2.atI [PyData.int k] 0 = some (.int k) := atI_nat (i := 0) rfl
        simp [dcStep, L2.itD, gEq, a3, keyOfD]
      | x :: y :: q =>
        have : ¬ ((q.length : Int) + 1 + 1 = 1) := by omega
        simp [dcStep, L2.itD, gEq, this]) (by show _ ≤ 1000000; omega)
  generalize hD : putAllO (fun p : Row × Int => match p.1 with | [k] => some ((Sum.inl k : L2.Key), PyData.bool true) | _ => none) (talA b) [] = D at e
  have hk : ∀ k : Nat, hasK (pairsD D) (.inl (k : Int)) = (lotsI b).contains [(k : Int)] := fun k => by
    rw [Bool.eq_iff_iff, hasK_pairs, ← hD, putAllO_mem, List.contains_iff_mem]
    constructor
    · rintro (⟨p, h1, d, h2⟩ | z)
      · obtain ⟨its, m⟩ := p
        have hin := hp.mem_iff.mp ((good_bounds g).2 _ h1).2
        match its, h2, hin with
        | [j], h2, hin =>
          simp only [Option.some.injEq, Prod.mk.injEq, Sum.inl.injEq] at h2
          rw [← h2.1]; exact hin
      · simp at z
    · intro z
      have h1 := hp.mem_iff.mpr z
      unfold unf at h1
      obtain ⟨p, h2, h3⟩ := List.mem_flatMap.mp h1
      have := (List.mem_replicate.mp h3).2
      refine .inl ⟨p, h2, .bool true, ?_⟩
      rw [← this]
  have e2 := lc_filter (mi := mRange1 (mUn (gSc1 lenD) (mBin gIx (mVar 0) (mC (.int 3))))) (g := setS 4) (mt := mB (mInK true 1 (mVar 4))) (me := mVar 4) (vs := [4]) (Γ := [.d (encB b), .own (.dct (pairsD D)), .no, .no, .no]) (Γ0 := [.d (encB b), .own (.dct (pairsD D)), .no, .no, .no]) (ts := List.range b.kinds.length) (fun k : Nat => PyData.int k) (fun k => !(lotsI b).contains [(k : Int)]) (fun k => .int (k : Int)) (rng_of (by simp [encB]) (by omega)) rfl (fun k _ => by
    refine lc_stepB (Γ1 := [.d (encB b), .own (.dct (pairsD D)), .no, .no, .d (.int k)]) (Γ2 := [.d (encB b), .own (.dct (pairsD D)), .no, .no, .d (.int k)]) (Γ3 := [.d (encB b), .own (.dct (pairsD D)), .no, .no, .d (.int k)]) rfl (mB_of ?_) (ev_vd rfl) rfl rfl
    have ev : mVar 4 [.d (encB b), .own (.dct (pairsD D)), .no, .no, .d (.int k)] = some (.d (.int k), [.d (encB b), .own (.dct (pairsD D)), .no, .no, .d (.int k)]) := ev_vd rfl
    unfold mInK
    rw [ev]
    simp only [Option.bind_some, List.getElem?_cons_succ, List.getElem?_cons_zero, keyOfD, hk, if_true]) (by rw [List.length_range]; show _ ≤ 1000000; omega)
  refine ev_runx [.d (encB b), .own (.dct (pairsD D)), .no, .no, .no] ?_
  refine seq_nx (set_of e rfl) ?_
  refine ret_of (s := .d (tupD (castN ((List.range b.kinds.length).filter fun k : Nat => !(lotsI b).contains [(k : Int)])))) (Γ1 := [.d (encB b), .own (.dct (pairsD D)), .no, .no, .no]) (un_of e2 ?_) rfl
  simp only [gTuple, ev_viewo, ev_datl, Option.bind_some, tupD, castN, List.map_map, Function.comp_def]
end K60

set_option Elab.async false
set_option linter.all false
set_option maxRecDepth 100000
set_option maxHeartbeats 4000000
namespace K60
open PySem DL
/-! ### the law's own count -/
abbrev bodyN : MS := mSeq (mSet (setS 4) (mCall 2 F__law_told (mAc (mVar 0) (mAc (mVar 3) mA0)))) (mPutT 2 (mVar 4) (mBin gAdd (mGetT 2 (mVar 4) (mC (.int 0))) (mC (.int 1))))
theorem e_nloop {b : Bk} (hb : OkBk b) {L : Dat} {ws : List Row} (h1 : ws.length ≤ 1000) (h2 : ∀ w ∈ ws, OkR b w) : ∃ s3 s4, forL (setS 3) bodyN (ws.map tupD) [.d (encB b), .d L, .own (.tdct (encR [])), .no, .no] = some (.nx, [.d (encB b), .d L, .own (.tdct (encR (talW b ws))), s3, s4]) := by
  obtain ⟨Γ', e, ⟨u3, u4, rfl⟩, _⟩ := forL_rem (g := setS 3) (mb := bodyN) tupD (fun (left : List Row) (acc : List (Row × Int)) Γ => (∃ s3 s4, Γ = [.d (encB b), .d L, .own (.tdct (encR acc)), s3, s4]) ∧ (acc.map (·.1)).Nodup ∧ acc.length + left.length ≤ 1000 ∧ ∀ w ∈ left, OkR b w)
    (fun acc w => bump acc (castN (toldN b w)) 1) (by
      rintro w r acc _ ⟨⟨s3, s4, rfl⟩, nd, hl, hk⟩
      rw [List.length_cons] at hl
      have hb2 := bump_len (k := castN (toldN b w)) (m := 1) (l := acc)
      refine ⟨[.d (encB b), .d L, .own (.tdct (encR (bump acc (castN (toldN b w)) 1))), .d (tupD w), .d (tupD (castN (toldN b w)))], ?_, ⟨_, _, rfl⟩, bump_nodup nd, by show (bump acc (castN (toldN b w)) 1).length + r.length ≤ 1000; omega, fun x hx => hk x (List.mem_cons_of_mem _ hx)⟩
      have e1 : setS 3 (.d (tupD w)) [.d (encB b), .d L, .own (.tdct (encR acc)), s3, s4] = some [.d (encB b), .d L, .own (.tdct (encR acc)), .d (tupD w), s4] := by simp
      unfold forStep
      rw [e1, Option.bind_some]
      refine seq_nx (Γ1 := [.d (encB b), .d L, .own (.tdct (encR acc)), .d (tupD w), .d (tupD (castN (toldN b w)))]) (set_of (call2 (ev_vd rfl) (ev_vd rfl) (e_ltold hb (hk w List.mem_cons_self)) rfl) rfl) ?_
      exact (bump_of (k := castN (toldN b w)) (m := 1) (l := acc) rfl (ev_vd rfl) rfl nd (show _ < 1000000 by omega)).trans rfl) (ts := ws) (s := []) (Γ := [.d (encB b), .d L, .own (.tdct (encR [])), .no, .no]) ⟨⟨_, _, rfl⟩, by simp, by simpa using h1, h2⟩
  have ef : talW b ws = ws.foldl (fun acc w => bump acc (castN (toldN b w)) 1) [] := by unfold talW tal; rw [List.foldl_map]
  rw [ef]
  exact ⟨u3, u4, e⟩
def tup1 (T : List (Row × Int)) : Dat := .tuple (T.map L2.itD)
theorem e_counted_d {b : Bk} (hb : OkBk b) {ws : List Row} (h1 : ws.length ≤ 1000) (h2 : ∀ w ∈ ws, OkR b w) : F__law_counted [.d (encB b), .d (.list (ws.map tupD))] = some (.d (tup1 (sortT (talW b ws))), [.d (encB b), .d (.list (ws.map tupD))]) := by
  obtain ⟨s3, s4, e⟩ := e_nloop hb (L := .list (ws.map tupD)) h1 h2
  refine ev_runx [.d (encB b), .d (.list (ws.map tupD)), .own (.tdct (encR (talW b ws))), s3, s4] ?_
  refine seq_nx (Γ1 := [.d (encB b), .d (.list (ws.map tupD)), .own (.tdct (encR [])), .no, .no]) rfl ?_
  refine seq_nx ((for_of (Γ1 := [.d (encB b), .d (.list (ws.map tupD)), .own (.tdct (encR [])), .no, .no]) (items := ws.map tupD) (by simp)).trans e) ?_
  exact ret_of (s := .d (tup1 (sortT (talW b ws)))) (Γ1 := [.d (encB b), .d (.list (ws.map tupD)), .own (.tdct (encR (talW b ws))), s3, s4]) (un_of (sortI_of rfl) (by simp [gTuple, tup1])) rfl
theorem e_counted_o {b : Bk} (hb : OkBk b) {ws : List Row} (h1 : ws.length ≤ 1000) (h2 : ∀ w ∈ ws, OkR b w) : F__law_counted [.d (encB b), .own (.lst (ws.map tupD))] = some (.d (tup1 (sortT (talW b ws))), [.d (encB b), .d (.list (ws.map tupD))]) := by
  obtain ⟨s3, s4, e⟩ := e_nloop hb (L := .list (ws.map tupD)) h1 h2
  refine ev_runx [.d (encB b), .d (.list (ws.map tupD)), .own (.tdct (encR (talW b ws))), s3, s4] ?_
  refine seq_nx (Γ1 := [.d (encB b), .own (.lst (ws.map tupD)), .own (.tdct (encR [])), .no, .no]) rfl ?_
  refine seq_nx ((for_of (Γ1 := [.d (encB b), .d (.list (ws.map tupD)), .own (.tdct (encR [])), .no, .no]) (items := ws.map tupD) (by simp)).trans e) ?_
  exact ret_of (s := .d (tup1 (sortT (talW b ws)))) (Γ1 := [.d (encB b), .d (.list (ws.map tupD)), .own (.tdct (encR (talW b ws))), s3, s4]) (un_of (sortI_of rfl) (by simp [gTuple, tup1])) rfl
/-! readings that go on -/
theorem e_on {b : Bk} (hb : OkBk b) {r : Row} (hr : OkR b r) : F__law_on [.d (encB b), .d (tupD r)] = some (.own (.lst ((onI b r).map tupD)), [.d (encB b), .d (tupD r)]) := by
  obtain ⟨R, ew, hR⟩ := e_wholes hb.1
  have h81 := wholes_len hb.1
  have hl := (ok_rd hr).1
  have h4 := hb.1.2.1
  have hk : keepable R = true := by rcases hR with rfl | rfl <;> rfl
  have ei : mSeqI (mCall 1 F__law_wholes (mAc (mVar 0) mA0)) [.d (encB b), .d (tupD r), .no, .no, .no] = some ((wholesI b).map tupD, [.d (encB b), .d (tupD r), .no, .no, .no]) := by
    have ec := call1 (a := mVar 0) (Γ := [.d (encB b), .d (tupD r), .no, .no, .no]) (Γ1 := [.d (encB b), .d (tupD r), .no, .no, .no]) (ev_vd rfl) rfl ew hk
    simp only [ev_SeqI, ec, Option.bind_some]
    rcases hR with rfl | rfl <;> rfl
  have e := lc_filter (mi := mSeqI (mCall 1 F__law_wholes (mAc (mVar 0) mA0))) (g := setS 2) (mt := mB (mBin gEq (mLc (mZip (mVar 1) (mVar 2)) (setT 2 (setC (setS 3) (setC (setS 4) setN))) (mB (mBin gNin (mVar 3) (mTup (mDc (mUn gNeg (mC (.int 1))) (mDc (mVar 4) mD0))))) (mC (.int 1)) [3, 4]) (mLst mD0))) (me := mVar 2) (vs := [2]) (Γ := [.d (encB b), .d (tupD r), .no, .no, .no]) (Γ0 := [.d (encB b), .d (tupD r), .no, .no, .no]) (ts := wholesI b) tupD (goesI r) tupD ei rfl (fun w hw => by
    have ez : mZip (mVar 1) (mVar 2) [.d (encB b), .d (tupD r), .d (tupD w), .no, .no] = some ((r.zip w).map encP, [.d (encB b), .d (tupD r), .d (tupD w), .no, .no]) := by
      rw [← zip_ints]
      exact zip_of (ev_vd rfl) (ev_vd rfl)
    have e2 := lc_filter (mi := mZip (mVar 1) (mVar 2)) (g := setT 2 (setC (setS 3) (setC (setS 4) setN))) (mt := mB (mBin gNin (mVar 3) (mTup (mDc (mUn gNeg (mC (.int 1))) (mDc (mVar 4) mD0))))) (me := mC (.int 1)) (vs := [3, 4]) (Γ := [.d (encB b), .d (tupD r), .d (tupD w), .no, .no]) (Γ0 := [.d (encB b), .d (tupD r), .d (tupD w), .no, .no]) (ts := r.zip w) encP (fun q => !(q.1 == -1 || q.1 == q.2)) (fun _ => .int 1) ez rfl (fun q _ => by
      obtain ⟨x, y⟩ := q
      refine lc_stepB (Γ1 := [.d (encB b), .d (tupD r), .d (tupD w), .d (.int x), .d (.int y)]) (Γ2 := [.d (encB b), .d (tupD r), .d (tupD w), .d (.int x), .d (.int y)]) (Γ3 := [.d (encB b), .d (tupD r), .d (tupD w), .d (.int x), .d (.int y)]) (by simp [encP]) (mB_of (bin_of (t := .d (tupD [-1, y])) (Γ2 := [.d (encB b), .d (tupD r), .d (tupD w), .d (.int x), .d (.int y)]) (ev_vd rfl) (by simp [tupD]) ?_)) rfl rfl rfl
      have : (!(x == -1 || x == y)) = !([-1, y] : List Int).contains x := by
        rw [List.contains_cons, List.contains_cons]
        simp
      rw [this]
      simp [gNin, -List.contains_eq_mem]) (by rw [List.length_zip]; show _ ≤ 1000000; omega)
    have e3 : ((r.zip w).filter fun q => !(q.1 == -1 || q.1 == q.2)).map (fun _ => PyData.int 1) = (((r.zip w).filter fun q => !(q.1 == -1 || q.1 == q.2)).map fun _ => (1 : Int)).map PyData.int := by rw [List.map_map]; rfl
    rw [e3] at e2
    have e4 : (((r.zip w).filter fun q => !(q.1 == -1 || q.1 == q.2)).map fun _ => (1 : Int)).isEmpty = goesI r w := by
      unfold goesI
      rw [List.isEmpty_map]
      generalize r.zip w = z
      induction z with
      | nil => rfl
      | cons q t ih =>
        rw [List.filter_cons, List.all_cons, ← ih]
        cases hq : (q.1 == -1 || q.1 == q.2) <;> simp
    refine lc_stepB (Γ1 := [.d (encB b), .d (tupD r), .d (tupD w), .no, .no]) (Γ2 := [.d (encB b), .d (tupD r), .d (tupD w), .no, .no]) (Γ3 := [.d (encB b), .d (tupD r), .d (tupD w), .no, .no]) rfl (mB_of (bin_of (t := .own (.lst [])) (Γ2 := [.d (encB b), .d (tupD r), .d (tupD w), .no, .no]) e2 rfl ?_)) (ev_vd rfl) rfl rfl
    rw [← e4]
    unfold gEq gSc
    simp only [ev_viewo, ev_datl, Option.bind_some]
    rw [ev_eqb0]
    rfl) (by show _ ≤ 1000000; omega)
  exact ev_runx [.d (encB b), .d (tupD r), .no, .no, .no] (ret_of e rfl)
end K60

set_option Elab.async false
set_option linter.all false
set_option maxRecDepth 100000
set_option maxHeartbeats 4000000
namespace K60
open PySem DL
/-! ### ways_for: how many whole readings miss just so much -/
abbrev PW := (Str × Int × Int) × List Int
def stepW (found : List Int) (p : PW) : List Int := ((found.map (fun x => x * (p.2.length : Int)) ++ [0]).zip (0 :: found)).map fun q : Int × Int => q.1 + q.2 * (p.1.2.1 + 1 - (p.2.length : Int))
def encW (p : PW) : Dat := .tuple [encT p.1, tupD p.2]
abbrev bodyW : MS := mSeq (mSet (setT 2 (setC (setS 9) (setC (setS 10) setN))) (mTup (mDc (mUn (gSc1 lenD) (mVar 4)) (mDc (mBin gSub (mBin gAdd (mVar 7) (mC (.int 1))) (mUn (gSc1 lenD) (mVar 4))) mD0)))) (mSeq (mSet (setS 5) (mBin gAdd (mLc (mSeqI (mVar 3)) (setS 11) mYes (mBin gMul (mVar 11) (mVar 9)) [11]) (mLst (mDc (mC (.int 0)) mD0)))) (mSet (setS 3) (mLc (mZip (mVar 5) (mLst (mDc (mC (.int 0)) (mDs (mVar 3) mD0)))) (setT 2 (setC (setS 11) (setC (setS 12) setN))) mYes (mBin gAdd (mVar 11) (mBin gMul (mVar 12) (mVar 10))) [11, 12])))
theorem e_wstep {B : Dat} {k m : Int} {found : List Int} {p : PW} {s5 s9 s10 : DL.Slot} (hl : found.length ≤ 100) (hp : p.2.length ≤ 3) (ht : 0 ≤ p.1.2.1 ∧ p.1.2.1 ≤ 1000) :
    ∃ u5 u9 u10, bodyW [.d B, .d (.int k), .d (.int m), .own (.lst (found.map PyData.int)), .d (tupD p.2), s5, .d (.str p.1.1), .d (.int p.1.2.1), .d (.int p.1.2.2), s9, s10, .no, .no] =
      some (.nx, [.d B, .d (.int k), .d (.int m), .own (.lst ((stepW found p).map PyData.int)), .d (tupD p.2), u5, .d (.str p.1.1), .d (.int p.1.2.1), .d (.int p.1.2.2), u9, u10, .no, .no]) := by
  obtain ⟨⟨nm, mo, pr⟩, l⟩ := p
  simp only at hp ht
  generalize hh : (l.length : Int) = h
  have h0 : 0 ≤ h ∧ h ≤ 3 := by omega
  have e1 : mSet (setT 2 (setC (setS 9) (setC (setS 10) setN))) (mTup (mDc (mUn (gSc1 lenD) (mVar 4)) (mDc (mBin gSub (mBin gAdd (mVar 7) (mC (.int 1))) (mUn (gSc1 lenD) (mVar 4))) mD0))) [.d B, .d (.int k), .d (.int m), .own (.lst (found.map PyData.int)), .d (tupD l), s5, .d (.str nm), .d (.int mo), .d (.int pr), s9, s10, .no, .no] =
      some (.nx, [.d B, .d (.int k), .d (.int m), .own (.lst (found.map PyData.int)), .d (tupD l), s5, .d (.str nm), .d (.int mo), .d (.int pr), .d (.int h), .d (.int (mo + 1 - h)), .no, .no]) := by
    subst hh
    simp [tupD]
  have e2 := lc_map (mi := mSeqI (mVar 3)) (g := setS 11) (me := mBin gMul (mVar 11) (mVar 9)) (vs := [11]) (Γ := [.d B, .d (.int k), .d (.int m), .own (.lst (found.map PyData.int)), .d (tupD l), s5, .d (.str nm), .d (.int mo), .d (.int pr), .d (.int h), .d (.int (mo + 1 - h)), .no, .no]) (Γ0 := [.d B, .d (.int k), .d (.int m), .d (.list (found.map PyData.int)), .d (tupD l), s5, .d (.str nm), .d (.int mo), .d (.int pr), .d (.int h), .d (.int (mo + 1 - h)), .no, .no]) (ts := found) PyData.int (fun x => .int (x * h)) (by simp) rfl (fun x _ => lc_step (Γ1 := [.d B, .d (.int k), .d (.int m), .d (.list (found.map PyData.int)), .d (tupD l), s5, .d (.str nm), .d (.int mo), .d (.int pr), .d (.int h), .d (.int (mo + 1 - h)), .d (.int x), .no]) (Γ2 := [.d B, .d (.int k), .d (.int m), .d (.list (found.map PyData.int)), .d (tupD l), s5, .d (.str nm), .d (.int mo), .d (.int pr), .d (.int h), .d (.int (mo + 1 - h)), .d (.int x), .no]) rfl (mul_of (ev_vd rfl) (ev_vd rfl) (by simp [mulC]; omega)) rfl) (by show _ ≤ 1000000; omega)
  have e2b : found.map (fun x => PyData.int (x * h)) = (found.map fun x => x * h).map PyData.int := by rw [List.map_map]; rfl
  rw [e2b] at e2
  have e3 : mSet (setS 5) (mBin gAdd (mLc (mSeqI (mVar 3)) (setS 11) mYes (mBin gMul (mVar 11) (mVar 9)) [11]) (mLst (mDc (mC (.int 0)) mD0))) [.d B, .d (.int k), .d (.int m), .own (.lst (found.map PyData.int)), .d (tupD l), s5, .d (.str nm), .d (.int mo), .d (.int pr), .d (.int h), .d (.int (mo + 1 - h)), .no, .no] =
      some (.nx, [.d B, .d (.int k), .d (.int m), .d (.list (found.map PyData.int)), .d (tupD l), .own (.lst ((found.map (fun x => x * h) ++ [0]).map PyData.int)), .d (.str nm), .d (.int mo), .d (.int pr), .d (.int h), .d (.int (mo + 1 - h)), .no, .no]) := by
    refine set_of (s := .own (.lst ((found.map (fun x => x * h) ++ [0]).map PyData.int))) (Γ1 := [.d B, .d (.int k), .d (.int m), .d (.list (found.map PyData.int)), .d (tupD l), s5, .d (.str nm), .d (.int mo), .d (.int pr), .d (.int h), .d (.int (mo + 1 - h)), .no, .no]) (bin_of (t := .own (.lst [.int 0])) (Γ2 := [.d B, .d (.int k), .d (.int m), .d (.list (found.map PyData.int)), .d (tupD l), s5, .d (.str nm), .d (.int mo), .d (.int pr), .d (.int h), .d (.int (mo + 1 - h)), .no, .no]) e2 rfl ?_) rfl
    have h1 : found.length ≤ 999999 := by omega
    have h2 : found.length + 1 ≤ 1000000 := by omega
    simp [h1, h2]
  generalize hL : found.map (fun x => x * h) ++ [0] = L at e3
  have e4 : mZip (mVar 5) (mLst (mDc (mC (.int 0)) (mDs (mVar 3) mD0))) [.d B, .d (.int k), .d (.int m), .d (.list (found.map PyData.int)), .d (tupD l), .own (.lst (L.map PyData.int)), .d (.str nm), .d (.int mo), .d (.int pr), .d (.int h), .d (.int (mo + 1 - h)), .no, .no] = some ((L.zip (0 :: found)).map encP, [.d B, .d (.int k), .d (.int m), .d (.list (found.map PyData.int)), .d (tupD l), .d (.list (L.map PyData.int)), .d (.str nm), .d (.int mo), .d (.int pr), .d (.int h), .d (.int (mo + 1 - h)), .no, .no]) := by
    have h1 : found.length ≤ 1000000 := by omega
    have h2 : found.length < 1000000 := by omega
    have h3 : found.length + 1 ≤ 1000000 := by omega
    have h4 : found.length ≤ 999999 := by omega
    rw [← zip_ints]
    simp [mZip, h1, h2, h3, h4]
  have e5 := lc_map (mi := mZip (mVar 5) (mLst (mDc (mC (.int 0)) (mDs (mVar 3) mD0)))) (g := setT 2 (setC (setS 11) (setC (setS 12) setN))) (me := mBin gAdd (mVar 11) (mBin gMul (mVar 12) (mVar 10))) (vs := [11, 12]) (Γ := [.d B, .d (.int k), .d (.int m), .d (.list (found.map PyData.int)), .d (tupD l), .own (.lst (L.map PyData.int)), .d (.str nm), .d (.int mo), .d (.int pr), .d (.int h), .d (.int (mo + 1 - h)), .no, .no]) (Γ0 := [.d B, .d (.int k), .d (.int m), .d (.list (found.map PyData.int)), .d (tupD l), .d (.list (L.map PyData.int)), .d (.str nm), .d (.int mo), .d (.int pr), .d (.int h), .d (.int (mo + 1 - h)), .no, .no]) (ts := L.zip (0 :: found)) encP (fun q => .int (q.1 + q.2 * (mo + 1 - h))) e4 rfl (fun q _ => by
    obtain ⟨x, y⟩ := q
    exact lc_step (Γ1 := [.d B, .d (.int k), .d (.int m), .d (.list (found.map PyData.int)), .d (tupD l), .d (.list (L.map PyData.int)), .d (.str nm), .d (.int mo), .d (.int pr), .d (.int h), .d (.int (mo + 1 - h)), .d (.int x), .d (.int y)]) (Γ2 := [.d B, .d (.int k), .d (.int m), .d (.list (found.map PyData.int)), .d (tupD l), .d (.list (L.map PyData.int)), .d (.str nm), .d (.int mo), .d (.int pr), .d (.int h), .d (.int (mo + 1 - h)), .d (.int x), .d (.int y)]) (by simp [encP]) (bin_of (ev_vd rfl) (mul_of (ev_vd rfl) (ev_vd rfl) (by simp [mulC]; omega)) (by simp)) rfl) (by
    rw [List.length_zip, List.length_cons]; show _ ≤ 1000000; omega)
  have e6 : (L.zip (0 :: found)).map (fun q => PyData.int (q.1 + q.2 * (mo + 1 - h))) = (stepW found ((nm, mo, pr), l)).map PyData.int := by
    unfold stepW
    rw [← hL, ← hh, List.map_map]
    rfl
  rw [e6] at e5
  exact ⟨_, _, _, seq_nx e1 (seq_nx e3 (set_of e5 rfl))⟩
theorem stepW_len {found : List Int} {p : PW} : (stepW found p).length = found.length + 1 := by
  unfold stepW
  simp
def wayL (b : Bk) (sh : List (List Int)) : List Int := (b.traits.zip sh).foldl stepW [1]
theorem e_wloop {b : Bk} (hb : OkBk b) {k : Nat} {kd : Str × Str × List (List Int)} (hk : b.kinds[k]? = some kd) {m : Int} : ∃ Γ', forL (setT 2 (setC (setT 3 (setC (setS 6) (setC (setS 7) (setC (setS 8) setN)))) (setC (setS 4) setN))) bodyW ((b.traits.zip kd.2.2).map encW) [.d (encB b), .d (.int k), .d (.int m), .own (.lst [.int 1]), .no, .no, .no, .no, .no, .no, .no, .no, .no] = some (.nx, Γ') ∧
    ∃ s4 s5 s6 s7 s8 s9 s10, Γ' = [.d (encB b), .d (.int k), .d (.int m), .own (.lst ((wayL b kd.2.2).map PyData.int)), s4, s5, s6, s7, s8, s9, s10, .no, .no] := by
  have hkd := (hb.2.2.2.1 kd (List.mem_of_getElem? hk)).1
  obtain ⟨Γ', e, h, _⟩ := forL_rem (g := setT 2 (setC (setT 3 (setC (setS 6) (setC (setS 7) (setC (setS 8) setN)))) (setC (setS 4) setN))) (mb := bodyW) encW (fun (left : List PW) (f : List Int) Γ => (∃ s4 s5 s6 s7 s8 s9 s10, Γ = [.d (encB b), .d (.int k), .d (.int m), .own (.lst (f.map PyData.int)), s4, s5, s6, s7, s8, s9, s10, .no, .no]) ∧ f.length + left.length ≤ 100 ∧ ∀ p ∈ left, p.2.length ≤ 3 ∧ 0 ≤ p.1.2.1 ∧ p.1.2.1 ≤ 1000) stepW (by
      rintro p r f _ ⟨⟨s4, s5, s6, s7, s8, s9, s10, rfl⟩, hl, hq⟩
      rw [List.length_cons] at hl
      obtain ⟨q1, q2⟩ := hq p List.mem_cons_self
      obtain ⟨u5, u9, u10, e⟩ := e_wstep (B := encB b) (k := k) (m := m) (found := f) (p := p) (s5 := s5) (s9 := s9) (s10 := s10) (by omega) q1 q2
      have e1 : setT 2 (setC (setT 3 (setC (setS 6) (setC (setS 7) (setC (setS 8) setN)))) (setC (setS 4) setN)) (.d (encW p)) [.d (encB b), .d (.int k), .d (.int m), .own (.lst (f.map PyData.int)), s4, s5, s6, s7, s8, s9, s10, .no, .no] = some [.d (encB b), .d (.int k), .d (.int m), .own (.lst (f.map PyData.int)), .d (tupD p.2), s5, .d (.str p.1.1), .d (.int p.1.2.1), .d (.int p.1.2.2), s9, s10, .no, .no] := by simp [encW, encT]
      refine ⟨[.d (encB b), .d (.int k), .d (.int m), .own (.lst ((stepW f p).map PyData.int)), .d (tupD p.2), u5, .d (.str p.1.1), .d (.int p.1.2.1), .d (.int p.1.2.2), u9, u10, .no, .no], ?_, ⟨_, _, _, _, _, _, _, rfl⟩, by rw [stepW_len]; omega, fun x hx => hq x (List.mem_cons_of_mem _ hx)⟩
      unfold forStep
      rw [e1, Option.bind_some]
      exact e) (ts := b.traits.zip kd.2.2) (s := [1]) (Γ := [.d (encB b), .d (.int k), .d (.int m), .own (.lst [.int 1]), .no, .no, .no, .no, .no, .no, .no, .no, .no]) ⟨⟨_, _, _, _, _, _, _, rfl⟩, by
        have := hb.1.2.1
        rw [List.length_zip]
        simp only [List.length_cons, List.length_nil]
        omega, fun p hp => by
        have gen : ∀ (ts : List (Str × Int × Int)) (sh : List (List Int)), PySem.W.EachIs OkL ts sh → ∀ p ∈ ts.zip sh, OkL p.1 p.2 := fun ts sh hh => by
          induction hh with
          | nil => intro p hp; simp at hp
          | cons q _ ih =>
            intro p hp
            rw [List.zip_cons_cons] at hp
            rcases List.mem_cons.mp hp with rfl | hp
            · exact q
            · exact ih p hp
        have h1 := gen _ _ hkd p hp
        have h2 := hb.1.2.2 p.1 (List.of_mem_zip hp).1
        exact ⟨h1.2.1, by omega, by omega⟩⟩
  exact ⟨Γ', e, h⟩
theorem e_ways0 {b : Bk} (hb : OkBk b) {k : Nat} {kd : Str × Str × List (List Int)} (hk : b.kinds[k]? = some kd) {m : Nat} (hm : m ≤ 1000) : F_ways_for [.d (encB b), .d (.int k), .d (.int m)] = some (.d (.int (((wayL b kd.2.2)[m]?).getD 0)), [.d (encB b), .d (.int k), .d (.int m)]) := by
  obtain ⟨Γ', e, s4, s5, s6, s7, s8, s9, s10, rfl⟩ := e_wloop hb hk (m := (m : Int))
  have a1 : L2.atI (b.kinds.map encK) (k : Int) = some (encK kd) := atI_nat (by rw [List.getElem?_map, hk]; rfl)
  have ez : mZip (mBin gIx (mVar 0) (mC (.int 2))) (mBin gIx (mBin gIx (mBin gIx (mVar 0) (mC (.int 3))) (mVar 1)) (mC (.int 2))) [.d (encB b), .d (.int k), .d (.int m), .own (.lst [.int 1]), .no, .no, .no, .no, .no, .no, .no, .no, .no] = some ((b.traits.zip kd.2.2).map encW, [.d (encB b), .d (.int k), .d (.int m), .own (.lst [.int 1]), .no, .no, .no, .no, .no, .no, .no, .no, .no]) := by
    have : zipL (b.traits.map encT) (kd.2.2.map tupD) = (b.traits.zip kd.2.2).map encW := by
      unfold zipL
      rw [List.zip_map, List.map_map]
      rfl
    rw [← this]
    exact zip_of (Γ1 := [.d (encB b), .d (.int k), .d (.int m), .own (.lst [.int 1]), .no, .no, .no, .no, .no, .no, .no, .no, .no]) (by simp [encB]) (by simp [encB, a1, encK])
  refine ev_runx [.d (encB b), .d (.int k), .d (.int m), .own (.lst ((wayL b kd.2.2).map PyData.int)), s4, s5, s6, s7, s8, s9, s10, .no, .no] ?_
  refine seq_nx (Γ1 := [.d (encB b), .d (.int k), .d (.int m), .own (.lst [.int 1]), .no, .no, .no, .no, .no, .no, .no, .no, .no]) (by simp) ?_
  refine seq_nx ((for_of ez).trans e) ?_
  generalize wayL b kd.2.2 = W
  by_cases h : m < W.length
  · have a2 : L2.atI (W.map PyData.int) (m : Int) = some (.int W[m]) := atI_nat (by rw [List.getElem?_map, List.getElem?_eq_getElem h]; rfl)
    simp [gLt, h, a2]
  · simp [gLt, h]
end K60

set_option Elab.async false
set_option linter.all false
set_option maxRecDepth 100000
set_option maxHeartbeats 4000000
namespace K60
open PySem DL
/-! ### what ways_for counts -/
def cntW (b : Bk) (sh : List (List Int)) (n m : Nat) : Nat := ((fullR b n).filter fun w => decide ((missI sh w).length = m)).length
theorem full_len (b : Bk) : ∀ n, ∀ w ∈ fullR b n, w.length = n
  | 0 => by simp [fullR]
  | n + 1 => by
    intro w hw
    have e2 : fullR b (n + 1) = addCol (fullR b n) (statesI b n) := by unfold fullR; rw [List.range_succ, List.foldl_append]; rfl
    rw [e2] at hw
    unfold addCol at hw
    obtain ⟨v, hv, hw⟩ := List.mem_flatMap.mp hw
    obtain ⟨x, _, rfl⟩ := List.mem_map.mp hw
    rw [List.length_append, full_len b n v hv]
    rfl
theorem miss_le (sh : List (List Int)) (w : Row) : (missI sh w).length ≤ w.length := by
  unfold missI idxs
  rw [List.length_map]
  refine Nat.le_trans (List.length_filter_le _ _) ?_
  rw [List.length_zipIdx]
  exact Nat.le_refl _
theorem filter_split {α : Type} (p : α → Bool) : ∀ l : List α, (l.filter p).length + (l.filter fun x => !p x).length = l.length
  | [] => rfl
  | a :: l => by
    have := filter_split p l
    rw [List.filter_cons, List.filter_cons]
    cases p a <;> simp <;> omega
theorem col_hits {col l : List Int} (nd : l.Nodup) (ndc : col.Nodup) (sub : ∀ x ∈ l, x ∈ col) : (col.filter fun x => l.contains x).length = l.length := by
  refine List.Perm.length_eq ?_
  rw [List.perm_ext_iff_of_nodup (List.Pairwise.filter _ ndc) nd]
  intro a
  rw [List.mem_filter, List.contains_iff_mem]
  exact ⟨fun h => h.2, fun h => ⟨sub a h, h⟩⟩
theorem cnt_row {sh : List (List Int)} {w : Row} {l col : List Int} (hs : sh[w.length]? = some l) (hc : ∀ x ∈ col, 0 ≤ x) (m : Nat) : (col.filter fun x => decide ((missI sh (w ++ [x])).length = m)).length =
    (if (missI sh w).length = m then (col.filter fun x => l.contains x).length else 0) + (if (missI sh w).length + 1 = m then (col.filter fun x => !l.contains x).length else 0) := by
  induction col with
  | nil => simp
  | cons x q ih =>
    have ih' := ih fun y hy => hc y (List.mem_cons_of_mem _ hy)
    have hx : (x != -1) = true := by have := hc x List.mem_cons_self; simp; omega
    have e := miss_snoc sh w x
    rw [hs, Option.getD_some, hx, Bool.true_and] at e
    rw [List.filter_cons, List.filter_cons, List.filter_cons, e]
    generalize (missI sh w).length = j at ih' ⊢
    cases hl : l.contains x
    · simp only [Bool.not_false, if_true, Bool.false_eq_true, if_false]
      by_cases h1 : j + 1 = m
      · have h2 : ¬ j = m := by omega
        simp only [h1, h2, decide_true, if_true, if_false, List.length_cons] at ih' ⊢
        omega
      · simp only [h1, decide_false, Bool.false_eq_true, if_false] at ih' ⊢
        exact ih'
    · simp only [Bool.not_true, Bool.false_eq_true, if_false, Nat.add_zero, if_true]
      by_cases h1 : j = m
      · simp only [h1, decide_true, if_true, List.length_cons] at ih' ⊢
        omega
      · simp only [h1, decide_false, Bool.false_eq_true, if_false] at ih' ⊢
        exact ih'
theorem cnt_flat {sh : List (List Int)} {l col : List Int} {n : Nat} (hs : sh[n]? = some l) (hc : ∀ x ∈ col, 0 ≤ x) (m : Nat) : ∀ {ws : List Row}, (∀ w ∈ ws, w.length = n) → ((addCol ws col).filter fun w => decide ((missI sh w).length = m)).length =
    (ws.filter fun w => decide ((missI sh w).length = m)).length * (col.filter fun x => l.contains x).length + (ws.filter fun w => decide ((missI sh w).length + 1 = m)).length * (col.filter fun x => !l.contains x).length
  | [], _ => by simp [addCol]
  | w :: ws, h => by
    have ih := cnt_flat hs hc m (ws := ws) fun v hv => h v (List.mem_cons_of_mem _ hv)
    have e1 : addCol (w :: ws) col = (col.map fun x => w ++ [x]) ++ addCol ws col := rfl
    have hw := h w List.mem_cons_self
    have er := cnt_row (sh := sh) (w := w) (l := l) (col := col) (by rw [hw]; exact hs) hc m
    rw [e1, List.filter_append, List.length_append, ih, List.filter_map, List.length_map, List.filter_cons, List.filter_cons]
    have : (col.filter ((fun w => decide ((missI sh w).length = m)) ∘ fun x => w ++ [x])).length = (col.filter fun x => decide ((missI sh (w ++ [x])).length = m)).length := rfl
    rw [this, er]
    generalize (col.filter fun x => l.contains x).length = A
    generalize (col.filter fun x => !l.contains x).length = C
    by_cases h1 : (missI sh w).length = m
    · have h2 : ¬ m + 1 = m := by omega
      simp only [h1, h2, decide_true, decide_false, if_true, if_false, Bool.false_eq_true, List.length_cons, Nat.add_mul]
      omega
    · by_cases h2 : (missI sh w).length + 1 = m
      · simp only [h1, h2, decide_true, decide_false, if_true, if_false, Bool.false_eq_true, List.length_cons, Nat.add_mul]
        omega
      · simp only [h1, h2, decide_false, if_false, Bool.false_eq_true]
        omega
theorem stepW_at {n : Nat} {c : Nat → Int} {p : PW} (hz : c (n + 1) = 0) : stepW ((List.range (n + 1)).map c) p = (List.range (n + 2)).map fun m => c m * (p.2.length : Int) + (if m = 0 then 0 else c (m - 1)) * (p.1.2.1 + 1 - (p.2.length : Int)) := by
  unfold stepW
  apply List.ext_getElem?
  intro i
  rw [List.getElem?_map, List.getElem?_map, List.map_map]
  by_cases h : i < n + 2
  · rw [List.getElem?_range h]
    have e1 : (((List.range (n + 1)).map ((fun x => x * (p.2.length : Int)) ∘ c)) ++ [0])[i]? = some (c i * (p.2.length : Int)) := by
      by_cases hi : i < n + 1
      · rw [List.getElem?_append_left (by simpa using hi), List.getElem?_map, List.getElem?_range hi]; rfl
      · have : i = n + 1 := by omega
        subst this
        rw [List.getElem?_append_right (by simp)]
        simp [hz]
    have e2 : ((0 : Int) :: (List.range (n + 1)).map c)[i]? = some (if i = 0 then 0 else c (i - 1)) := by
      cases i with
      | zero => rfl
      | succ i =>
        rw [List.getElem?_cons_succ, List.getElem?_map, List.getElem?_range (by omega)]
        simp
    have e3 : ((((List.range (n + 1)).map ((fun x => x * (p.2.length : Int)) ∘ c)) ++ [0]).zip ((0 : Int) :: (List.range (n + 1)).map c))[i]? = some (c i * (p.2.length : Int), if i = 0 then 0 else c (i - 1)) := List.getElem?_zip_eq_some.mpr ⟨e1, e2⟩
    rw [e3]
    rfl
  · have l1 : (((List.range (n + 1)).map ((fun x => x * (p.2.length : Int)) ∘ c)) ++ [0]).length = n + 2 := by simp
    rw [List.getElem?_eq_none (by rw [List.length_zip, l1]; omega), List.getElem?_eq_none (by simp; omega)]
    rfl
theorem way_eq {b : Bk} (hb : OkBk b) {sh : List (List Int)} (hs : PySem.W.EachIs OkL b.traits sh) : ∀ n, n ≤ b.traits.length → ((b.traits.zip sh).take n).foldl stepW [1] = (List.range (n + 1)).map fun m => (cntW b sh n m : Int)
  | 0, _ => by
    simp [cntW, fullR, missI, idxs]
  | n + 1, hn => by
    have ih := way_eq hb hs n (by omega)
    have hl := each_len hs
    have h1 : n < b.traits.length := by omega
    have h2 : n < sh.length := by omega
    have hz : (b.traits.zip sh)[n]? = some (b.traits[n], sh[n]) := List.getElem?_zip_eq_some.mpr ⟨List.getElem?_eq_getElem h1, List.getElem?_eq_getElem h2⟩
    rw [List.take_add_one, hz, List.foldl_append, ih]
    show stepW _ (b.traits[n], sh[n]) = _
    rw [stepW_at]
    · refine List.map_congr_left fun m _ => ?_
      have e2 : fullR b (n + 1) = addCol (fullR b n) (statesI b n) := by unfold fullR; rw [List.range_succ, List.foldl_append]; rfl
      obtain ⟨m1, m2, _, a2⟩ := most_le hb h1
      have okl : OkL b.traits[n] sh[n] := by
        have gen : ∀ (ts : List (Str × Int × Int)) (sh : List (List Int)), PySem.W.EachIs OkL ts sh → ∀ n (h1 : n < ts.length) (h2 : n < sh.length), OkL ts[n] sh[n] := fun ts sh hh => by
          induction hh with
          | nil => intro n h1; simp at h1
          | cons q _ ih =>
            intro n h1 h2
            cases n with
            | zero => exact q
            | succ n => exact ih n (by simpa using h1) (by simpa using h2)
        exact gen _ _ hs n h1 h2
      have hc : ∀ x ∈ statesI b n, 0 ≤ x := fun x hx => (rngI_mem.mp hx).1
      have hit : ((statesI b n).filter fun x => sh[n].contains x).length = sh[n].length := col_hits okl.2.2.2 (nodup_rng _) fun x hx => rngI_mem.mpr (by have := okl.2.2.1 x hx; omega)
      have hsp := filter_split (fun x => sh[n].contains x) (statesI b n)
      have hcl : (statesI b n).length = (mostI b n + 1).toNat := rngI_len _
      have hf := cnt_flat (sh := sh) (l := sh[n]) (col := statesI b n) (n := n) (List.getElem?_eq_getElem h2) hc m (ws := fullR b n) (full_len b n)
      have hC : cntW b sh (n + 1) m = cntW b sh n m * sh[n].length + ((fullR b n).filter fun w => decide ((missI sh w).length + 1 = m)).length * ((statesI b n).filter fun x => !sh[n].contains x).length := by
        unfold cntW
        rw [e2, hf, hit]
      have hprev : (((fullR b n).filter fun w => decide ((missI sh w).length + 1 = m)).length : Int) = if m = 0 then 0 else (cntW b sh n (m - 1) : Int) := by
        by_cases hm : m = 0
        · rw [if_pos hm, hm]
          rw [List.filter_eq_nil_iff.mpr (by intro w _; simp)]
          rfl
        · rw [if_neg hm]
          unfold cntW
          congr 2
          refine List.filter_congr fun w _ => ?_
          exact decide_eq_decide.mpr ⟨fun z => by omega, fun z => by omega⟩
      have hrest : (((statesI b n).filter fun x => !sh[n].contains x).length : Int) = b.traits[n].2.1 + 1 - (sh[n].length : Int) := by
        rw [hit] at hsp
        rw [← a2]
        omega
      rw [hC, Int.natCast_add, Int.natCast_mul, Int.natCast_mul, hprev, hrest]
    · have : cntW b sh n (n + 1) = 0 := by
        unfold cntW
        rw [List.filter_eq_nil_iff.mpr]
        · rfl
        · intro w hw
          have h3 := miss_le sh w
          rw [full_len b n w hw] at h3
          simp
          omega
      rw [this]
      rfl
def missN (b : Bk) (k : Nat) (m : Nat) : Nat := ((wholesI b).filter fun w => decide ((missK b k w).length = m)).length
theorem e_ways {b : Bk} (hb : OkBk b) {k : Nat} (hk : k < b.kinds.length) {m : Nat} (hm : m ≤ 1000) : F_ways_for [.d (encB b), .d (.int k), .d (.int m)] = some (.d (.int (missN b k m : Int)), [.d (encB b), .d (.int k), .d (.int m)]) := by
  have ek : b.kinds[k]? = some b.kinds[k] := List.getElem?_eq_getElem hk
  have e := e_ways0 hb ek hm
  have hs := (hb.2.2.2.1 _ (List.getElem_mem hk)).1
  have hl := each_len hs
  have ew := way_eq hb hs b.traits.length (Nat.le_refl _)
  rw [List.take_of_length_le (by rw [List.length_zip]; omega)] at ew
  have esh : showsK b k = b.kinds[k].2.2 := by unfold showsK; rw [ek]; rfl
  have : ((wayL b b.kinds[k].2.2)[m]?).getD 0 = (missN b k m : Int) := by
    unfold wayL
    rw [ew, List.getElem?_map]
    by_cases h : m < b.traits.length + 1
    · rw [List.getElem?_range h]
      show ((cntW b b.kinds[k].2.2 b.traits.length m : Nat) : Int) = _
      unfold cntW missN missK
      rw [full_eq, esh]
    · rw [List.getElem?_eq_none (by simp; omega)]
      show (0 : Int) = _
      unfold missN missK
      rw [List.filter_eq_nil_iff.mpr]
      · rfl
      · intro w hw
        rw [← full_eq] at hw
        have h3 := miss_le (showsK b k) w
        rw [full_len b _ w hw] at h3
        simp
        omega
  rw [this] at e
  exact e
theorem sum_le {f : Row → Nat} {ws : List Row} : ∀ E : Nat, ((List.range E).map fun m => (((ws.filter fun w => decide (f w = m)).length : Nat) : Int)).sum = ((ws.filter fun w => decide (f w < E)).length : Int)
  | 0 => by
    rw [List.filter_eq_nil_iff.mpr (by intro w _; simp)]
    rfl
  | E + 1 => by
    rw [List.range_succ, List.map_append, List.sum_append, sum_le E]
    simp only [List.map_cons, List.map_nil, List.sum_cons, List.sum_nil]
    induction ws with
    | nil => rfl
    | cons w q ih =>
      rw [List.filter_cons, List.filter_cons, List.filter_cons]
      by_cases h1 : f w < E
      · have h2 : ¬ f w = E := by omega
        have h3 : f w < E + 1 := by omega
        simp only [h1, h2, h3, decide_true, decide_false, if_true, Bool.false_eq_true, if_false, List.length_cons]
        omega
      · by_cases h2 : f w = E
        · have h3 : f w < E + 1 := by omega
          simp only [h1, h2, h3, decide_true, decide_false, if_true, Bool.false_eq_true, if_false, List.length_cons]
          have : E < E + 1 := by omega
          simp only [this, decide_true, if_true, List.length_cons]
          have h4 : ¬ E < E := by omega
          simp only [h4, decide_false, Bool.false_eq_true, if_false]
          omega
        · have h3 : ¬ f w < E + 1 := by omega
          simp only [h1, h2, h3, decide_false, Bool.false_eq_true, if_false]
          omega
theorem e_ofkind {b : Bk} (hb : OkBk b) {k : Nat} (hk : k < b.kinds.length) : F_many_of_kind [.d (encB b), .d (.int k)] = some (.d (.int (((wholesI b).filter fun w => fitK b w k).length : Int)), [.d (encB b), .d (.int k)]) := by
  obtain ⟨E, hE⟩ : ∃ E : Nat, b.errs = E := ⟨b.errs.toNat, by have := hb.2.2.2.2.1; omega⟩
  have hE2 : E ≤ 2 := by have := hb.2.2.2.2.2; omega
  have er : mRange1 (mBin gAdd (mBin gIx (mVar 0) (mC (.int 1))) (mC (.int 1))) [.d (encB b), .d (.int k), .no] = some ((List.range (E + 1)).map (fun m : Nat => PyData.int m), [.d (encB b), .d (.int k), .no]) := by
    refine rng_of (n := E + 1) ?_ (by omega)
    simp [encB, hE]
  have e := lc_map (mi := mRange1 (mBin gAdd (mBin gIx (mVar 0) (mC (.int 1))) (mC (.int 1)))) (g := setS 2) (me := mCall 3 F_ways_for (mAc (mVar 0) (mAc (mVar 1) (mAc (mVar 2) mA0)))) (vs := [2]) (Γ := [.d (encB b), .d (.int k), .no]) (Γ0 := [.d (encB b), .d (.int k), .no]) (ts := List.range (E + 1)) (fun m : Nat => PyData.int m) (fun m => .int (missN b k m : Int)) er rfl (fun m hm => by
    have hm2 := List.mem_range.mp hm
    exact lc_step (Γ1 := [.d (encB b), .d (.int k), .d (.int m)]) (Γ2 := [.d (encB b), .d (.int k), .d (.int m)]) rfl (call3 (ev_vd rfl) (ev_vd rfl) (ev_vd rfl) (e_ways hb hk (by omega)) rfl) rfl) (by rw [List.length_range]; show _ ≤ 1000000; omega)
  have e2 : (List.range (E + 1)).map (fun m => PyData.int (missN b k m : Int)) = ((List.range (E + 1)).map fun m => (missN b k m : Int)).map PyData.int := by rw [List.map_map]; rfl
  rw [e2] at e
  refine ev_runx [.d (encB b), .d (.int k), .no] (ret_of (s := .d (.int (((wholesI b).filter fun w => fitK b w k).length : Int))) (Γ1 := [.d (encB b), .d (.int k), .no]) (un_of e ?_) rfl)
  rw [sum_of]
  unfold missN
  rw [sum_le]
  have : (fun w => decide ((missK b k w).length < E + 1)) = fun w => fitK b w k := by
    funext w
    unfold fitK
    exact decide_eq_decide.mpr ⟨fun z => by omega, fun z => by omega⟩
  rw [this]
end K60

set_option Elab.async false
set_option linter.all false
set_option maxRecDepth 100000
set_option maxHeartbeats 4000000
namespace K60
open PySem DL
section
variable {S s2 s4 s5 s6 s7 s8 s9 s10 s11 s12 s13 s14 s15 s17 s18 : DL.Slot} {b : Bk}
theorem told_row {F : FS} {B : Dat} {w : Row} {l : Row} {Γ : DL.Env} (h3 : Γ[3]? = some (.d B)) (h16 : Γ[16]? = some (.d (tupD w))) (e : F [.d B, .d (tupD w)] = some (.d (tupD l), [.d B, .d (tupD w)])) : mCall 2 F (mAc (mVar 3) (mAc (mVar 16) mA0)) Γ = some (.d (tupD l), Γ) := call2 (ev_vd h3) (ev_vd h16) e rfl
theorem r_lots {g R : DL.Slot} (hb : OkBk b) (hR : R = .own (.lst ((wholesI b).map tupD)) ∨ R = .d (.list ((wholesI b).map tupD))) :
    (mSet (setS 5) (mLc (mSeqI (mVar 4)) (setS 16) mYes (mCall 2 F__law_told (mAc (mVar 3) (mAc (mVar 16) mA0))) [16])) [S, g, s2, .d (encB b), R, s5, s6, s7, s8, s9, s10, s11, s12, s13, s14, s15, .no, s17, s18, .no, .no] = some (.nx, [S, g, s2, .d (encB b), .d (.list ((wholesI b).map tupD)), .own (.lst ((lotsI b).map tupD)), s6, s7, s8, s9, s10, s11, s12, s13, s14, s15, .no, s17, s18, .no, .no]) := by
  have h81 := wholes_len hb.1
  have ei : mSeqI (mVar 4) [S, g, s2, .d (encB b), R, s5, s6, s7, s8, s9, s10, s11, s12, s13, s14, s15, .no, s17, s18, .no, .no] = some ((wholesI b).map tupD, [S, g, s2, .d (encB b), .d (.list ((wholesI b).map tupD)), s5, s6, s7, s8, s9, s10, s11, s12, s13, s14, s15, .no, s17, s18, .no, .no]) := by
    rcases hR with rfl | rfl
    · exact (by simp)
    · exact (by simp)
  have e := lc_map (mi := mSeqI (mVar 4)) (g := setS 16) (me := mCall 2 F__law_told (mAc (mVar 3) (mAc (mVar 16) mA0))) (vs := [16]) (Γ := [S, g, s2, .d (encB b), R, s5, s6, s7, s8, s9, s10, s11, s12, s13, s14, s15, .no, s17, s18, .no, .no]) (Γ0 := [S, g, s2, .d (encB b), .d (.list ((wholesI b).map tupD)), s5, s6, s7, s8, s9, s10, s11, s12, s13, s14, s15, .no, s17, s18, .no, .no]) (ts := wholesI b) tupD (fun w => tupD (castN (toldN b w))) ei rfl (fun w hw => by
    exact lc_step (Γ1 := [S, g, s2, .d (encB b), .d (.list ((wholesI b).map tupD)), s5, s6, s7, s8, s9, s10, s11, s12, s13, s14, s15, .d (tupD w), s17, s18, .no, .no]) (Γ2 := [S, g, s2, .d (encB b), .d (.list ((wholesI b).map tupD)), s5, s6, s7, s8, s9, s10, s11, s12, s13, s14, s15, .d (tupD w), s17, s18, .no, .no]) rfl (told_row rfl rfl (e_ltold hb (wholes_ok hb.1 hw))) rfl) (by show _ ≤ 1000000; omega)
  have e2 : (wholesI b).map (fun w => tupD (castN (toldN b w))) = (lotsI b).map tupD := by unfold lotsI; rw [List.map_map]; rfl
  rw [e2] at e
  exact set_of e rfl
theorem lots_mem (hb : OkBk b) {l : Row} (h : l ∈ lotsI b) : ∃ w, w ∈ wholesI b ∧ l = castN (toldN b w) ∧ l.length ≤ 7 := by
  unfold lotsI at h
  obtain ⟨w, hw, rfl⟩ := List.mem_map.mp h
  have := told_len (b := b) (r := w)
  have := hb.2.2.1
  exact ⟨w, hw, rfl, by unfold castN; rw [List.length_map]; omega⟩
theorem lots_len (hb : OkBk b) : (lotsI b).length ≤ 81 := by
  unfold lotsI
  rw [List.length_map]
  exact wholes_len hb.1
theorem eq_one {m : M} {n : Nat} {Γ : DL.Env} (h : m Γ = some (.d (.int (n : Int)), Γ)) : mB (mBin gEq m (mC (.int 1))) Γ = some (decide (n = 1), Γ) := by
  refine mB_of (bin_of h rfl ?_)
  have : decide ((n : Int) = 1) = decide (n = 1) := decide_eq_decide.mpr ⟨fun z => by omega, fun z => by omega⟩
  simp [gEq]
  exact decide_eq_decide.mp this
theorem r_sure (hb : OkBk b) {x : Dat} (h12 : s12 = .no ∨ s12 = .d x) : (mSet (setS 6) (mLc (mSeqI (mVar 5)) (setS 12) (mB (mBin gEq (mUn (gSc1 lenD) (mVar 12)) (mC (.int 1)))) (mVar 12) [12])) [S, g, s2, .d (encB b), .d (.list ((wholesI b).map tupD)), .own (.lst ((lotsI b).map tupD)), s6, s7, s8, s9, s10, s11, s12, s13, s14, s15, .no, s17, s18, .no, .no] = some (.nx, [S, g, s2, .d (encB b), .d (.list ((wholesI b).map tupD)), .d (.list ((lotsI b).map tupD)), .own (.lst (((lotsI b).filter fun l => decide (l.length = 1)).map tupD)), s7, s8, s9, s10, s11, s12, s13, s14, s15, .no, s17, s18, .no, .no]) := by
  have h81 := lots_len hb
  have e := lc_filter (mi := mSeqI (mVar 5)) (g := setS 12) (mt := mB (mBin gEq (mUn (gSc1 lenD) (mVar 12)) (mC (.int 1)))) (me := mVar 12) (vs := [12]) (Γ := [S, g, s2, .d (encB b), .d (.list ((wholesI b).map tupD)), .own (.lst ((lotsI b).map tupD)), s6, s7, s8, s9, s10, s11, s12, s13, s14, s15, .no, s17, s18, .no, .no]) (Γ0 := [S, g, s2, .d (encB b), .d (.list ((wholesI b).map tupD)), .d (.list ((lotsI b).map tupD)), s6, s7, s8, s9, s10, s11, s12, s13, s14, s15, .no, s17, s18, .no, .no]) (ts := lotsI b) tupD (fun l => decide (l.length = 1)) tupD (by simp) (by rcases h12 with rfl | rfl <;> rfl) (fun l hl => by
    exact lc_stepB (Γ1 := [S, g, s2, .d (encB b), .d (.list ((wholesI b).map tupD)), .d (.list ((lotsI b).map tupD)), s6, s7, s8, s9, s10, s11, .d (tupD l), s13, s14, s15, .no, s17, s18, .no, .no]) (Γ2 := [S, g, s2, .d (encB b), .d (.list ((wholesI b).map tupD)), .d (.list ((lotsI b).map tupD)), s6, s7, s8, s9, s10, s11, .d (tupD l), s13, s14, s15, .no, s17, s18, .no, .no]) (Γ3 := [S, g, s2, .d (encB b), .d (.list ((wholesI b).map tupD)), .d (.list ((lotsI b).map tupD)), s6, s7, s8, s9, s10, s11, .d (tupD l), s13, s14, s15, .no, s17, s18, .no, .no]) rfl (eq_one (len_tup (ev_vd rfl))) (ev_vd rfl) rfl rfl) (by show _ ≤ 1000000; omega)
  exact set_of e rfl
theorem len_own {m : M} {l : List Dat} {Γ Γ1 : DL.Env} (h : m Γ = some (.own (.lst l), Γ1)) : mUn (gSc1 lenD) m Γ = some (.d (.int (l.length : Int)), Γ1) := by
  refine un_of h ?_
  unfold gSc1
  simp only [ev_viewo, ev_datl, Option.bind_some, lenD]
theorem len_var {i : Nat} {l : List Dat} {Γ : DL.Env} (h : Γ[i]? = some (.own (.lst l))) : mUn (gSc1 lenD) (mVar i) Γ = some (.d (.int (l.length : Int)), Γ) := by
  refine un_of (ev_vo h) ?_
  unfold gSc1
  simp only [ev_viewb, h, ev_datl, Option.bind_some, lenD]
theorem len_vd {i : Nat} {l : List Dat} {Γ : DL.Env} (h : Γ[i]? = some (.d (.list l))) : mUn (gSc1 lenD) (mVar i) Γ = some (.d (.int (l.length : Int)), Γ) := by
  refine un_of (ev_vd h) ?_
  unfold gSc1
  simp only [ev_viewd, Option.bind_some, lenD]
theorem r_grouped (hb : OkBk b) {x : Dat} (h12 : s12 = .no ∨ s12 = .d x) : (mSet (setS 7) (mLc (mSeqI (mVar 5)) (setS 12) (mB (mBin gEq (mUn (gSc1 lenD) (mCall 2 F__law_groups (mAc (mVar 3) (mAc (mVar 12) mA0)))) (mC (.int 1)))) (mVar 12) [12])) [S, g, s2, .d (encB b), .d (.list ((wholesI b).map tupD)), .d (.list ((lotsI b).map tupD)), s6, s7, s8, s9, s10, s11, s12, s13, s14, s15, .no, s17, s18, .no, .no] = some (.nx, [S, g, s2, .d (encB b), .d (.list ((wholesI b).map tupD)), .d (.list ((lotsI b).map tupD)), s6, .own (.lst (((lotsI b).filter (oneG b)).map tupD)), s8, s9, s10, s11, s12, s13, s14, s15, .no, s17, s18, .no, .no]) := by
  have h81 := lots_len hb
  have h77 := hb.2.2.1
  have e := lc_filter (mi := mSeqI (mVar 5)) (g := setS 12) (mt := mB (mBin gEq (mUn (gSc1 lenD) (mCall 2 F__law_groups (mAc (mVar 3) (mAc (mVar 12) mA0)))) (mC (.int 1)))) (me := mVar 12) (vs := [12]) (Γ := [S, g, s2, .d (encB b), .d (.list ((wholesI b).map tupD)), .d (.list ((lotsI b).map tupD)), s6, s7, s8, s9, s10, s11, s12, s13, s14, s15, .no, s17, s18, .no, .no]) (Γ0 := [S, g, s2, .d (encB b), .d (.list ((wholesI b).map tupD)), .d (.list ((lotsI b).map tupD)), s6, s7, s8, s9, s10, s11, s12, s13, s14, s15, .no, s17, s18, .no, .no]) (ts := lotsI b) tupD (oneG b) tupD (by simp) (by rcases h12 with rfl | rfl <;> rfl) (fun l hl => by
    obtain ⟨w, hw, rfl, _⟩ := lots_mem hb hl
    have h7 := told_len (b := b) (r := w)
    have eg := e_lgroups (b := b) (lot := toldN b w) told_lt (by omega)
    rw [← groups_one]
    have el := len_own (Γ := [S, g, s2, .d (encB b), .d (.list ((wholesI b).map tupD)), .d (.list ((lotsI b).map tupD)), s6, s7, s8, s9, s10, s11, .d (tupD (castN (toldN b w))), s13, s14, s15, .no, s17, s18, .no, .no]) (call2 (a := mVar 3) (b := mVar 12) (ev_vd rfl) (ev_vd rfl) eg rfl)
    rw [List.length_map] at el
    exact lc_stepB (Γ1 := [S, g, s2, .d (encB b), .d (.list ((wholesI b).map tupD)), .d (.list ((lotsI b).map tupD)), s6, s7, s8, s9, s10, s11, .d (tupD (castN (toldN b w))), s13, s14, s15, .no, s17, s18, .no, .no]) (Γ2 := [S, g, s2, .d (encB b), .d (.list ((wholesI b).map tupD)), .d (.list ((lotsI b).map tupD)), s6, s7, s8, s9, s10, s11, .d (tupD (castN (toldN b w))), s13, s14, s15, .no, s17, s18, .no, .no]) (Γ3 := [S, g, s2, .d (encB b), .d (.list ((wholesI b).map tupD)), .d (.list ((lotsI b).map tupD)), s6, s7, s8, s9, s10, s11, .d (tupD (castN (toldN b w))), s13, s14, s15, .no, s17, s18, .no, .no]) rfl (eq_one el) (ev_vd rfl) rfl rfl) (by show _ ≤ 1000000; omega)
  exact set_of e rfl
def dueD (b : Bk) : List Dat := [tup1 (talA b), .int ((lotsI b).count [] : Int), .int (((lotsI b).filter fun l => decide (l.length = 1)).length : Int), .int (((lotsI b).filter (oneG b)).length : Int), .tuple [.int ((lotsI b).map fun l => (l.length : Int)).sum, .int ((wholesI b).length : Int)]]
theorem r_told (hb : OkBk b) : (mSet (setS 8) (mLst (mDc (mCall 1 F_tally (mAc (mVar 3) mA0)) (mDc (mCall 1 F_many_strange (mAc (mVar 3) mA0)) (mDc (mCall 1 F_many_sure (mAc (mVar 3) mA0)) (mDc (mCall 1 F_many_sure_of_group (mAc (mVar 3) mA0)) (mDc (mCall 1 F_kinds_in_all (mAc (mVar 3) mA0)) mD0))))))) [S, g, s2, .d (encB b), s4, s5, s6, s7, s8, s9, s10, s11, s12, s13, s14, s15, .no, s17, s18, .no, .no] = some (.nx, [S, g, s2, .d (encB b), s4, s5, s6, s7, .own (.lst (dueD b)), s9, s10, s11, s12, s13, s14, s15, .no, s17, s18, .no, .no]) := by
  exact set_of (lst_of (l := dueD b) (dc_d (call1 (ev_vd rfl) rfl (e_tally hb) rfl) (dc_d (call1 (ev_vd rfl) rfl (e_strange hb) rfl) (dc_d (call1 (ev_vd rfl) rfl (e_sure hb) rfl) (dc_d (call1 (ev_vd rfl) rfl (e_sureG hb) rfl) (dc_d (call1 (ev_vd rfl) rfl (e_kinds_in_all hb) rfl) rfl))))) (by simp [dueD])) rfl
theorem cnt_of {i : Nat} {L : List Row} {mx : M} {l : Row} {Γ : DL.Env} (h : Γ[i]? = some (.d (.list (L.map tupD)))) (hx : mx Γ = some (.d (tupD l), Γ)) : mCount (mVar i) mx Γ = some (.d (.int (L.count l : Int)), Γ) := by
  unfold mCount
  rw [ev_vd h]
  simp only [Option.bind_some, ev_viewd, hx, gSc, cntD_tups]
theorem r_due (hb : OkBk b) {x : Dat} (h12 : s12 = .no ∨ s12 = .d x) : (mSet (setS 9) (mLst (mDc (mCall 2 F__law_counted (mAc (mVar 3) (mAc (mVar 4) mA0))) (mDc (mCount (mVar 5) (mTup mD0)) (mDc (mUn (gSc1 lenD) (mVar 6)) (mDc (mUn (gSc1 lenD) (mVar 7)) (mDc (mTup (mDc (mUn (gSc1 sumD) (mLc (mSeqI (mVar 5)) (setS 12) mYes (mUn (gSc1 lenD) (mVar 12)) [12])) (mDc (mUn (gSc1 lenD) (mVar 4)) mD0))) mD0))))))) [S, g, s2, .d (encB b), .d (.list ((wholesI b).map tupD)), .d (.list ((lotsI b).map tupD)), .own (.lst (((lotsI b).filter fun l => decide (l.length = 1)).map tupD)), .own (.lst (((lotsI b).filter (oneG b)).map tupD)), s8, s9, s10, s11, s12, s13, s14, s15, .no, s17, s18, .no, .no] = some (.nx, [S, g, s2, .d (encB b), .d (.list ((wholesI b).map tupD)), .d (.list ((lotsI b).map tupD)), .own (.lst (((lotsI b).filter fun l => decide (l.length = 1)).map tupD)), .own (.lst (((lotsI b).filter (oneG b)).map tupD)), s8, .own (.lst (dueD b)), s10, s11, s12, s13, s14, s15, .no, s17, s18, .no, .no]) := by
  have h81 := lots_len hb
  have h82 := wholes_len hb.1
  have e1 := e_counted_d hb (ws := wholesI b) (by omega) (fun w hw => wholes_ok hb.1 hw)
  have e2 : mCount (mVar 5) (mTup mD0) [S, g, s2, .d (encB b), .d (.list ((wholesI b).map tupD)), .d (.list ((lotsI b).map tupD)), .own (.lst (((lotsI b).filter fun l => decide (l.length = 1)).map tupD)), .own (.lst (((lotsI b).filter (oneG b)).map tupD)), s8, s9, s10, s11, s12, s13, s14, s15, .no, s17, s18, .no, .no] = some (.d (.int ((lotsI b).count [] : Int)), [S, g, s2, .d (encB b), .d (.list ((wholesI b).map tupD)), .d (.list ((lotsI b).map tupD)), .own (.lst (((lotsI b).filter fun l => decide (l.length = 1)).map tupD)), .own (.lst (((lotsI b).filter (oneG b)).map tupD)), s8, s9, s10, s11, s12, s13, s14, s15, .no, s17, s18, .no, .no]) := cnt_of rfl (by simp [tupD])
  have e3 := len_var (i := 6) (Γ := [S, g, s2, .d (encB b), .d (.list ((wholesI b).map tupD)), .d (.list ((lotsI b).map tupD)), .own (.lst (((lotsI b).filter fun l => decide (l.length = 1)).map tupD)), .own (.lst (((lotsI b).filter (oneG b)).map tupD)), s8, s9, s10, s11, s12, s13, s14, s15, .no, s17, s18, .no, .no]) rfl
  have e4 := len_var (i := 7) (Γ := [S, g, s2, .d (encB b), .d (.list ((wholesI b).map tupD)), .d (.list ((lotsI b).map tupD)), .own (.lst (((lotsI b).filter fun l => decide (l.length = 1)).map tupD)), .own (.lst (((lotsI b).filter (oneG b)).map tupD)), s8, s9, s10, s11, s12, s13, s14, s15, .no, s17, s18, .no, .no]) rfl
  have e6 := len_vd (i := 4) (Γ := [S, g, s2, .d (encB b), .d (.list ((wholesI b).map tupD)), .d (.list ((lotsI b).map tupD)), .own (.lst (((lotsI b).filter fun l => decide (l.length = 1)).map tupD)), .own (.lst (((lotsI b).filter (oneG b)).map tupD)), s8, s9, s10, s11, s12, s13, s14, s15, .no, s17, s18, .no, .no]) rfl
  rw [List.length_map] at e3 e4 e6
  have e := lc_map (mi := mSeqI (mVar 5)) (g := setS 12) (me := mUn (gSc1 lenD) (mVar 12)) (vs := [12]) (Γ := [S, g, s2, .d (encB b), .d (.list ((wholesI b).map tupD)), .d (.list ((lotsI b).map tupD)), .own (.lst (((lotsI b).filter fun l => decide (l.length = 1)).map tupD)), .own (.lst (((lotsI b).filter (oneG b)).map tupD)), s8, s9, s10, s11, s12, s13, s14, s15, .no, s17, s18, .no, .no]) (Γ0 := [S, g, s2, .d (encB b), .d (.list ((wholesI b).map tupD)), .d (.list ((lotsI b).map tupD)), .own (.lst (((lotsI b).filter fun l => decide (l.length = 1)).map tupD)), .own (.lst (((lotsI b).filter (oneG b)).map tupD)), s8, s9, s10, s11, s12, s13, s14, s15, .no, s17, s18, .no, .no]) (ts := lotsI b) tupD (fun l => .int (l.length : Int)) (by simp) (by rcases h12 with rfl | rfl <;> rfl) (fun l hl => by
    exact lc_step (Γ1 := [S, g, s2, .d (encB b), .d (.list ((wholesI b).map tupD)), .d (.list ((lotsI b).map tupD)), .own (.lst (((lotsI b).filter fun l => decide (l.length = 1)).map tupD)), .own (.lst (((lotsI b).filter (oneG b)).map tupD)), s8, s9, s10, s11, .d (tupD l), s13, s14, s15, .no, s17, s18, .no, .no]) (Γ2 := [S, g, s2, .d (encB b), .d (.list ((wholesI b).map tupD)), .d (.list ((lotsI b).map tupD)), .own (.lst (((lotsI b).filter fun l => decide (l.length = 1)).map tupD)), .own (.lst (((lotsI b).filter (oneG b)).map tupD)), s8, s9, s10, s11, .d (tupD l), s13, s14, s15, .no, s17, s18, .no, .no]) rfl (len_tup (ev_vd rfl)) rfl) (by show _ ≤ 1000000; omega)
  have ei : (lotsI b).map (fun l => PyData.int (l.length : Int)) = ((lotsI b).map fun l => (l.length : Int)).map PyData.int := by rw [List.map_map]; rfl
  rw [ei] at e
  have e5 := un_of (g := gSc1 sumD) e sum_of
  exact set_of (lst_of (l := dueD b) (dc_d (call2 (ev_vd rfl) (ev_vd rfl) e1 rfl) (dc_d e2 (dc_d e3 (dc_d e4 (dc_d (tup_of (dc_d e5 (dc_d e6 rfl)) (by simp)) rfl))))) (by simp [dueD])) rfl
theorem ok_tup1 {T : List (Row × Int)} : okA (tup1 T) = true := by
  unfold tup1
  rw [okA_tuple]
  refine okA_map fun p _ => ?_
  unfold L2.itD
  rw [okA_tuple, List.all_cons]
  have := okA_tupD p.1
  unfold tupD at this
  rw [this]
  rfl
theorem sz_tup1 {T : List (Row × Int)} (h : ∀ p ∈ T, p.1.length ≤ 7) (hl : T.length ≤ 81) : szA (tup1 T) ≤ 1000 := by
  unfold tup1
  rw [szA_tuple]
  have := szAll_map (f := L2.itD) (c := 11) (l := T) fun p hp => by
    have h7 := h p hp
    unfold L2.itD
    rw [szA_tuple]
    have e := szA_tupD p.1
    unfold tupD at e
    simp only [szAll, e, szA_int]
    omega
  omega
theorem ok_due {b : Bk} : okA (.list (dueD b)) = true := by
  rw [okA_list]
  unfold dueD
  rw [List.all_cons, ok_tup1]
  rfl
theorem sz_due {b : Bk} (hb : OkBk b) : szA (.list (dueD b)) ≤ 800000 := by
  rw [szA_list]
  unfold dueD
  have := sz_tup1 (T := talA b) (fun p hp => (tal_p7 hb hp).1) (tal_len b hb.1)
  simp only [szAll, szA_int, szA_tuple]
  omega
theorem r_alike1 (hb : OkBk b) : (mIfS (mNotT (mTru (mCall 2 F__law_alike (mAc (mVar 8) (mAc (mVar 9) mA0))))) (mRet 1 (mC (.bool false))) mNext) [S, g, s2, s3, s4, s5, s6, s7, .own (.lst (dueD b)), .own (.lst (dueD b)), s10, s11, s12, s13, s14, s15, .no, s17, s18, .no, .no] = some (.nx, [S, g, s2, s3, s4, s5, s6, s7, .d (.list (dueD b)), .d (.list (dueD b)), s10, s11, s12, s13, s14, s15, .no, s17, s18, .no, .no]) :=
  alike_no (s := .bor 8) (t := .bor 9) (Γ1 := [S, g, s2, s3, s4, s5, s6, s7, .own (.lst (dueD b)), .own (.lst (dueD b)), s10, s11, s12, s13, s14, s15, .no, s17, s18, .no, .no]) (Γ2 := [S, g, s2, s3, s4, s5, s6, s7, .own (.lst (dueD b)), .own (.lst (dueD b)), s10, s11, s12, s13, s14, s15, .no, s17, s18, .no, .no]) (ev_vo rfl) (ev_vo rfl) rfl .lst .lst ok_due (sz_due hb)
def nevI (b : Bk) : Row := castN ((List.range b.kinds.length).filter fun k : Nat => !(lotsI b).contains [(k : Int)])
theorem r_never (hb : OkBk b) {x : Dat} (h18 : s18 = .no ∨ s18 = .d x) : (mSet (setS 10) (mUn gTuple (mLc (mRange1 (mUn (gSc1 lenD) (mBin gIx (mVar 3) (mC (.int 3))))) (setS 18) (mB (mBin gNinL (mTup (mDc (mVar 18) mD0)) (mVar 5))) (mVar 18) [18]))) [S, g, s2, .d (encB b), s4, .d (.list ((lotsI b).map tupD)), s6, s7, s8, s9, s10, s11, s12, s13, s14, s15, .no, s17, s18, .no, .no] = some (.nx, [S, g, s2, .d (encB b), s4, .d (.list ((lotsI b).map tupD)), s6, s7, s8, s9, .d (tupD (nevI b)), s11, s12, s13, s14, s15, .no, s17, s18, .no, .no]) := by
  have h77 := hb.2.2.1
  have e := lc_filter (mi := mRange1 (mUn (gSc1 lenD) (mBin gIx (mVar 3) (mC (.int 3))))) (g := setS 18) (mt := mB (mBin gNinL (mTup (mDc (mVar 18) mD0)) (mVar 5))) (me := mVar 18) (vs := [18]) (Γ := [S, g, s2, .d (encB b), s4, .d (.list ((lotsI b).map tupD)), s6, s7, s8, s9, s10, s11, s12, s13, s14, s15, .no, s17, s18, .no, .no]) (Γ0 := [S, g, s2, .d (encB b), s4, .d (.list ((lotsI b).map tupD)), s6, s7, s8, s9, s10, s11, s12, s13, s14, s15, .no, s17, s18, .no, .no]) (ts := List.range b.kinds.length) (fun k : Nat => PyData.int k) (fun k => !(lotsI b).contains [(k : Int)]) (fun k => .int (k : Int)) (rng_of (by simp [encB]) (by omega)) (by rcases h18 with rfl | rfl <;> rfl) (fun k _ => by
    refine lc_stepB (Γ1 := [S, g, s2, .d (encB b), s4, .d (.list ((lotsI b).map tupD)), s6, s7, s8, s9, s10, s11, s12, s13, s14, s15, .no, s17, .d (.int k), .no, .no]) (Γ2 := [S, g, s2, .d (encB b), s4, .d (.list ((lotsI b).map tupD)), s6, s7, s8, s9, s10, s11, s12, s13, s14, s15, .no, s17, .d (.int k), .no, .no]) (Γ3 := [S, g, s2, .d (encB b), s4, .d (.list ((lotsI b).map tupD)), s6, s7, s8, s9, s10, s11, s12, s13, s14, s15, .no, s17, .d (.int k), .no, .no]) rfl (mB_of (bin_of (s := .d (tupD [(k : Int)])) (t := .d (.list ((lotsI b).map tupD))) (Γ1 := [S, g, s2, .d (encB b), s4, .d (.list ((lotsI b).map tupD)), s6, s7, s8, s9, s10, s11, s12, s13, s14, s15, .no, s17, .d (.int k), .no, .no]) (Γ2 := [S, g, s2, .d (encB b), s4, .d (.list ((lotsI b).map tupD)), s6, s7, s8, s9, s10, s11, s12, s13, s14, s15, .no, s17, .d (.int k), .no, .no]) (tup_of (dc_d (ev_vd rfl) rfl) (by simp)) (ev_vd rfl) ?_)) (ev_vd rfl) rfl rfl
    simp only [gSc, ev_viewd, Option.bind_some, inLD_tups, if_true]) (by rw [List.length_range]; show _ ≤ 1000000; omega)
  refine set_of (s := .d (tupD (nevI b))) (Γ1 := [S, g, s2, .d (encB b), s4, .d (.list ((lotsI b).map tupD)), s6, s7, s8, s9, s10, s11, s12, s13, s14, s15, .no, s17, s18, .no, .no]) (un_of e ?_) rfl
  simp only [gTuple, ev_viewo, ev_datl, Option.bind_some, tupD, nevI, castN, List.map_map, Function.comp_def]
theorem nev_len (hb : OkBk b) : (nevI b).length ≤ 7 := by
  unfold nevI castN
  rw [List.length_map]
  have := List.length_filter_le (fun k : Nat => !(lotsI b).contains [(k : Int)]) (List.range b.kinds.length)
  rw [List.length_range] at this
  have := hb.2.2.1
  omega
theorem r_alike2 (hb : OkBk b) : (mIfS (mNotT (mTru (mCall 2 F__law_alike (mAc (mCall 1 F_never_told (mAc (mVar 3) mA0)) (mAc (mVar 10) mA0))))) (mRet 1 (mC (.bool false))) mNext) [S, g, s2, .d (encB b), s4, s5, s6, s7, s8, s9, .d (tupD (nevI b)), s11, s12, s13, s14, s15, .no, s17, s18, .no, .no] = some (.nx, [S, g, s2, .d (encB b), s4, s5, s6, s7, s8, s9, .d (tupD (nevI b)), s11, s12, s13, s14, s15, .no, s17, s18, .no, .no]) :=
  alike_no (d := tupD (nevI b)) (s := .d (tupD (nevI b))) (t := .d (tupD (nevI b))) (Γ1 := [S, g, s2, .d (encB b), s4, s5, s6, s7, s8, s9, .d (tupD (nevI b)), s11, s12, s13, s14, s15, .no, s17, s18, .no, .no]) (Γ2 := [S, g, s2, .d (encB b), s4, s5, s6, s7, s8, s9, .d (tupD (nevI b)), s11, s12, s13, s14, s15, .no, s17, s18, .no, .no]) (call1 (ev_vd rfl) rfl (e_never hb) rfl) (ev_vd rfl) rfl .d .d (okA_tupD _) (by rw [szA_tupD]; have := nev_len hb; omega)
end
end K60

set_option Elab.async false
set_option linter.all false
set_option maxRecDepth 100000
set_option maxHeartbeats 4000000
namespace K60
open PySem DL
section
variable {S s2 s4 s5 s6 s7 s8 s9 s10 s11 s12 s13 s14 s15 s17 s18 : DL.Slot} {b : Bk}
theorem a_read {β : Bag} (h : OkBag β) (hb : OkBk b) : ∃ r k β2, OkBag β2 ∧ OkR b r ∧ k < b.kinds.length ∧ (mSet (setT 2 (setC (setS 17) (setC (setS 18) setN))) (mTup (mDc (mCall 2 F__law_reading (mAc (mVar 1) (mAc (mVar 3) mA0))) (mDc (mCall 2 F__law_take (mAc (mVar 1) (mAc (mUn (gSc1 lenD) (mBin gIx (mVar 3) (mC (.int 3)))) mA0))) mD0)))) [S, .own (encBag β), s2, .d (encB b), s4, s5, s6, s7, s8, s9, s10, s11, s12, s13, s14, s15, .no, s17, s18, .no, .no] = some (.nx, [S, .own (encBag β2), s2, .d (encB b), s4, s5, s6, s7, s8, s9, s10, s11, s12, s13, s14, s15, .no, .d (tupD r), .d (.int ((k : Nat) : Int)), .no, .no]) := by
  have h77 := hb.2.2.1
  have h22 := hb.2.1
  obtain ⟨r, β1, er, h1, hr⟩ := e_reading h hb
  obtain ⟨v, β2, ev, v0, v1, h2⟩ := e_take (n := (b.kinds.length : Int)) h1 (by omega) (by omega)
  obtain ⟨k, rfl⟩ : ∃ k : Nat, v = k := ⟨v.toNat, by omega⟩
  refine ⟨r, k, β2, h2, hr, by omega, ?_⟩
  have c1 : mCall 2 F__law_reading (mAc (mVar 1) (mAc (mVar 3) mA0)) [S, .own (encBag β), s2, .d (encB b), s4, s5, s6, s7, s8, s9, s10, s11, s12, s13, s14, s15, .no, s17, s18, .no, .no] = some (.d (tupD r), [S, .own (encBag β1), s2, .d (encB b), s4, s5, s6, s7, s8, s9, s10, s11, s12, s13, s14, s15, .no, s17, s18, .no, .no]) := call_of (ss := [.bor 1, .d (encB b)]) (ac_p (ev_vo rfl) (ac_p (ev_vd rfl) rfl)) rfl er
  have cl : mUn (gSc1 lenD) (mBin gIx (mVar 3) (mC (.int 3))) [S, .own (encBag β1), s2, .d (encB b), s4, s5, s6, s7, s8, s9, s10, s11, s12, s13, s14, s15, .no, s17, s18, .no, .no] = some (.d (.int (b.kinds.length : Int)), [S, .own (encBag β1), s2, .d (encB b), s4, s5, s6, s7, s8, s9, s10, s11, s12, s13, s14, s15, .no, s17, s18, .no, .no]) := by simp [encB]
  have c2 : mCall 2 F__law_take (mAc (mVar 1) (mAc (mUn (gSc1 lenD) (mBin gIx (mVar 3) (mC (.int 3)))) mA0)) [S, .own (encBag β1), s2, .d (encB b), s4, s5, s6, s7, s8, s9, s10, s11, s12, s13, s14, s15, .no, s17, s18, .no, .no] = some (.d (.int (k : Int)), [S, .own (encBag β2), s2, .d (encB b), s4, s5, s6, s7, s8, s9, s10, s11, s12, s13, s14, s15, .no, s17, s18, .no, .no]) := call_of (ss := [.bor 1, .d (.int (b.kinds.length : Int))]) (ac_p (ev_vo rfl) (ac_p cl rfl)) rfl ev
  exact set_of (s := .d (.tuple [tupD r, .int (k : Int)])) (Γ1 := [S, .own (encBag β2), s2, .d (encB b), s4, s5, s6, s7, s8, s9, s10, s11, s12, s13, s14, s15, .no, s17, s18, .no, .no]) (tup_of (dc_d c1 (dc_d c2 rfl)) (by simp)) (by simp)
theorem on_len (hb : OkBk b) {r : Row} : (onI b r).length ≤ 81 := Nat.le_trans (List.length_filter_le _ _) (wholes_len hb.1)
theorem on_ok (hb : OkBk b) {r : Row} : ∀ w ∈ onI b r, OkR b w := fun w hw => wholes_ok hb.1 (List.mem_filter.mp hw).1
theorem talw_small (hb : OkBk b) {ws : List Row} (hl : ws.length ≤ 81) : (∀ p ∈ sortT (talW b ws), p.1.length ≤ 7) ∧ (sortT (talW b ws)).length ≤ 81 := by
  obtain ⟨g, h⟩ := talW_good b ws
  obtain ⟨b1, b2⟩ := good_bounds g
  rw [h.length_eq, List.length_map] at b1
  refine ⟨fun p hp => ?_, by rw [(sortT_perm _).length_eq]; omega⟩
  have := (b2 p ((sortT_perm _).mem_iff.mp hp)).2
  obtain ⟨w, _, e⟩ := List.mem_map.mp (h.mem_iff.mp this)
  have h1 := told_len (b := b) (r := w)
  have h7 := hb.2.2.1
  rw [← e]
  unfold castN
  rw [List.length_map]
  omega
theorem a_alike1 (hb : OkBk b) {r : Row} (hr : OkR b r) : (mIfS (mNotT (mTru (mCall 2 F__law_alike (mAc (mCall 2 F_tally_from (mAc (mVar 3) (mAc (mVar 17) mA0))) (mAc (mCall 2 F__law_counted (mAc (mVar 3) (mAc (mCall 2 F__law_on (mAc (mVar 3) (mAc (mVar 17) mA0))) mA0))) mA0))))) (mRet 1 (mC (.bool false))) mNext) [S, g, s2, .d (encB b), s4, s5, s6, s7, s8, s9, s10, s11, s12, s13, s14, s15, .no, .d (tupD r), s18, .no, .no] = some (.nx, [S, g, s2, .d (encB b), s4, s5, s6, s7, s8, s9, s10, s11, s12, s13, s14, s15, .no, .d (tupD r), s18, .no, .no]) := by
  obtain ⟨t1, t2⟩ := talw_small hb (on_len hb (r := r))
  have h81 := on_len hb (r := r)
  exact alike_no (d := tup1 (sortT (talW b (onI b r)))) (s := .d (tup1 (sortT (talW b (onI b r))))) (t := .d (tup1 (sortT (talW b (onI b r))))) (Γ1 := [S, g, s2, .d (encB b), s4, s5, s6, s7, s8, s9, s10, s11, s12, s13, s14, s15, .no, .d (tupD r), s18, .no, .no]) (Γ2 := [S, g, s2, .d (encB b), s4, s5, s6, s7, s8, s9, s10, s11, s12, s13, s14, s15, .no, .d (tupD r), s18, .no, .no]) (call2 (ev_vd rfl) (ev_vd rfl) (e_tally_from hb hr) rfl)
    (call_of (ss := [.d (encB b), .own (.lst ((onI b r).map tupD))]) (ac_p (ev_vd rfl) (ac_p (call2 (ev_vd rfl) (ev_vd rfl) (e_on hb hr) rfl) rfl)) rfl (e_counted_o hb (by omega) (on_ok hb))) rfl .d .d ok_tup1 (by have := sz_tup1 t1 t2; omega)
theorem a_lot {β : Bag} (h : OkBag β) (hb : OkBk b) {k : Nat} : ∃ l β1, OkBag β1 ∧ l.length ≤ 7 ∧ (mSet (setS 12) (mCall 2 F__law_some (mAc (mVar 1) (mAc (mBin gAdd (mVar 5) (mLst (mDc (mTup mD0) (mDc (mTup (mDc (mVar 18) mD0)) (mDc (mUn gTuple (mUn gListRg (mUn (gSc1 lenD) (mBin gIx (mVar 3) (mC (.int 3)))))) mD0))))) mA0)))) [S, .own (encBag β), s2, .d (encB b), s4, .d (.list ((lotsI b).map tupD)), s6, s7, s8, s9, s10, s11, s12, s13, s14, s15, .no, s17, .d (.int ((k : Nat) : Int)), .no, .no] = some (.nx, [S, .own (encBag β1), s2, .d (encB b), s4, .d (.list ((lotsI b).map tupD)), s6, s7, s8, s9, s10, s11, .d (tupD l), s13, s14, s15, .no, s17, .d (.int ((k : Nat) : Int)), .no, .no]) := by
  have h77 := hb.2.2.1
  have h81 := lots_len hb
  obtain ⟨x, β1, hx, h1, e⟩ := e_some_own (l := (lotsI b ++ [[], [(k : Int)], castN (List.range b.kinds.length)]).map tupD) h (by simp) (by simp; omega)
  obtain ⟨l, hl, rfl⟩ := List.mem_map.mp hx
  refine ⟨l, β1, h1, ?_, ?_⟩
  · rcases List.mem_append.mp hl with hl | hl
    · obtain ⟨_, _, _, h7⟩ := lots_mem hb hl
      exact h7
    · simp only [List.mem_cons, List.not_mem_nil, or_false] at hl
      rcases hl with rfl | rfl | rfl
      · simp
      · simp
      · unfold castN; rw [List.length_map, List.length_range]; exact h77
  · have el : mLst (mDc (mTup mD0) (mDc (mTup (mDc (mVar 18) mD0)) (mDc (mUn gTuple (mUn gListRg (mUn (gSc1 lenD) (mBin gIx (mVar 3) (mC (.int 3)))))) mD0))) [S, .own (encBag β), s2, .d (encB b), s4, .d (.list ((lotsI b).map tupD)), s6, s7, s8, s9, s10, s11, s12, s13, s14, s15, .no, s17, .d (.int ((k : Nat) : Int)), .no, .no] = some (.own (.lst ([[], [(k : Int)], castN (List.range b.kinds.length)].map tupD)), [S, .own (encBag β), s2, .d (encB b), s4, .d (.list ((lotsI b).map tupD)), s6, s7, s8, s9, s10, s11, s12, s13, s14, s15, .no, s17, .d (.int ((k : Nat) : Int)), .no, .no]) := by
      have h5 : (b.kinds.length : Int) ≤ 1000000 := by omega
      refine lst_of (dc_d (by simp [tupD]) (dc_d (d := tupD [(k : Int)]) (Γ1 := [S, .own (encBag β), s2, .d (encB b), s4, .d (.list ((lotsI b).map tupD)), s6, s7, s8, s9, s10, s11, s12, s13, s14, s15, .no, s17, .d (.int ((k : Nat) : Int)), .no, .no]) (tup_of (dc_d (ev_vd rfl) rfl) (by simp)) (dc_d (d := tupD (castN (List.range b.kinds.length))) (Γ1 := [S, .own (encBag β), s2, .d (encB b), s4, .d (.list ((lotsI b).map tupD)), s6, s7, s8, s9, s10, s11, s12, s13, s14, s15, .no, s17, .d (.int ((k : Nat) : Int)), .no, .no]) (un_of (g := gTuple) (s := .own (.lst ((List.range b.kinds.length).map fun i : Nat => PyData.int i))) (Γ1 := [S, .own (encBag β), s2, .d (encB b), s4, .d (.list ((lotsI b).map tupD)), s6, s7, s8, s9, s10, s11, s12, s13, s14, s15, .no, s17, .d (.int ((k : Nat) : Int)), .no, .no]) ?_ ?_) rfl))) (by simp)
      · simp [encB, gListRg, h5, rangeD]
      · simp only [gTuple, ev_viewo, ev_datl, Option.bind_some, tupD, castN, List.map_map, Function.comp_def]
    have ea : mBin gAdd (mVar 5) (mLst (mDc (mTup mD0) (mDc (mTup (mDc (mVar 18) mD0)) (mDc (mUn gTuple (mUn gListRg (mUn (gSc1 lenD) (mBin gIx (mVar 3) (mC (.int 3)))))) mD0)))) [S, .own (encBag β), s2, .d (encB b), s4, .d (.list ((lotsI b).map tupD)), s6, s7, s8, s9, s10, s11, s12, s13, s14, s15, .no, s17, .d (.int ((k : Nat) : Int)), .no, .no] = some (.own (.lst ((lotsI b ++ [[], [(k : Int)], castN (List.range b.kinds.length)]).map tupD)), [S, .own (encBag β), s2, .d (encB b), s4, .d (.list ((lotsI b).map tupD)), s6, s7, s8, s9, s10, s11, s12, s13, s14, s15, .no, s17, .d (.int ((k : Nat) : Int)), .no, .no]) := by
      refine bin_of (ev_vd rfl) el ?_
      have : (lotsI b).length + 3 ≤ 1000000 := by omega
      have h9 : (lotsI b).length ≤ 999997 := by omega
      simp [gAdd, this, h9]
    exact set_of (call_of (ss := [.bor 1, .own (.lst ((lotsI b ++ [[], [(k : Int)], castN (List.range b.kinds.length)]).map tupD))]) (ac_p (ev_vo rfl) (ac_p ea rfl)) rfl e) rfl
theorem a_fit (hb : OkBk b) {l : Row} (hl : l.length ≤ 7) : (mSet (setS 13) (mLc (mSeqI (mVar 5)) (setS 19) (mB (mBin gEq (mLc (mSeqI (mVar 12)) (setS 20) (mB (mBin gNin (mVar 20) (mVar 19))) (mVar 20) [20]) (mLst mD0))) (mVar 19) [19])) [S, g, s2, s3, s4, .d (.list ((lotsI b).map tupD)), s6, s7, s8, s9, s10, s11, .d (tupD l), s13, s14, s15, .no, s17, s18, .no, .no] = some (.nx, [S, g, s2, s3, s4, .d (.list ((lotsI b).map tupD)), s6, s7, s8, s9, s10, s11, .d (tupD l), .own (.lst (((lotsI b).filter (fitL l)).map tupD)), s14, s15, .no, s17, s18, .no, .no]) := by
  have h81 := lots_len hb
  have e := lc_filter (mi := mSeqI (mVar 5)) (g := setS 19) (mt := mB (mBin gEq (mLc (mSeqI (mVar 12)) (setS 20) (mB (mBin gNin (mVar 20) (mVar 19))) (mVar 20) [20]) (mLst mD0))) (me := mVar 19) (vs := [19]) (Γ := [S, g, s2, s3, s4, .d (.list ((lotsI b).map tupD)), s6, s7, s8, s9, s10, s11, .d (tupD l), s13, s14, s15, .no, s17, s18, .no, .no]) (Γ0 := [S, g, s2, s3, s4, .d (.list ((lotsI b).map tupD)), s6, s7, s8, s9, s10, s11, .d (tupD l), s13, s14, s15, .no, s17, s18, .no, .no]) (ts := lotsI b) tupD (fitL l) tupD (by simp) rfl (fun its hi => by
    have ef := lc_filter (mi := mSeqI (mVar 12)) (g := setS 20) (mt := mB (mBin gNin (mVar 20) (mVar 19))) (me := mVar 20) (vs := [20]) (Γ := [S, g, s2, s3, s4, .d (.list ((lotsI b).map tupD)), s6, s7, s8, s9, s10, s11, .d (tupD l), s13, s14, s15, .no, s17, s18, .d (tupD its), .no]) (Γ0 := [S, g, s2, s3, s4, .d (.list ((lotsI b).map tupD)), s6, s7, s8, s9, s10, s11, .d (tupD l), s13, s14, s15, .no, s17, s18, .d (tupD its), .no]) (ts := l) PyData.int (fun k => !its.contains k) PyData.int (seqI_of (ev_vd rfl)) rfl (fun k _ => by
      refine lc_stepB (Γ1 := [S, g, s2, s3, s4, .d (.list ((lotsI b).map tupD)), s6, s7, s8, s9, s10, s11, .d (tupD l), s13, s14, s15, .no, s17, s18, .d (tupD its), .d (.int k)]) (Γ2 := [S, g, s2, s3, s4, .d (.list ((lotsI b).map tupD)), s6, s7, s8, s9, s10, s11, .d (tupD l), s13, s14, s15, .no, s17, s18, .d (tupD its), .d (.int k)]) (Γ3 := [S, g, s2, s3, s4, .d (.list ((lotsI b).map tupD)), s6, s7, s8, s9, s10, s11, .d (tupD l), s13, s14, s15, .no, s17, s18, .d (tupD its), .d (.int k)]) rfl (mB_of (bin_of (ev_vd rfl) (ev_vd rfl) ?_)) (ev_vd rfl) rfl rfl
      simp [gNin, -List.contains_eq_mem]) (by show _ ≤ 1000000; omega)
    have e4 : (l.filter fun k => !its.contains k).isEmpty = fitL l its := by
      unfold fitL
      clear ef hl
      induction l with
      | nil => rfl
      | cons q t ih =>
        rw [List.filter_cons, List.all_cons, ← ih]
        cases hq : its.contains q <;> simp
    refine lc_stepB (Γ1 := [S, g, s2, s3, s4, .d (.list ((lotsI b).map tupD)), s6, s7, s8, s9, s10, s11, .d (tupD l), s13, s14, s15, .no, s17, s18, .d (tupD its), .no]) (Γ2 := [S, g, s2, s3, s4, .d (.list ((lotsI b).map tupD)), s6, s7, s8, s9, s10, s11, .d (tupD l), s13, s14, s15, .no, s17, s18, .d (tupD its), .no]) (Γ3 := [S, g, s2, s3, s4, .d (.list ((lotsI b).map tupD)), s6, s7, s8, s9, s10, s11, .d (tupD l), s13, s14, s15, .no, s17, s18, .d (tupD its), .no]) rfl (mB_of (bin_of (t := .own (.lst [])) (Γ2 := [S, g, s2, s3, s4, .d (.list ((lotsI b).map tupD)), s6, s7, s8, s9, s10, s11, .d (tupD l), s13, s14, s15, .no, s17, s18, .d (tupD its), .no]) ef rfl ?_)) (ev_vd rfl) rfl rfl
    rw [← e4]
    unfold gEq gSc
    simp only [ev_viewo, ev_datl, Option.bind_some]
    rw [ev_eqb0]
    rfl) (by show _ ≤ 1000000; omega)
  exact set_of e rfl
theorem a_alike2 (hb : OkBk b) {l : Row} (hl : l.length ≤ 7) : (mIfS (mNotT (mTru (mCall 2 F__law_alike (mAc (mLst (mDc (mCall 2 F_many_telling (mAc (mVar 3) (mAc (mVar 12) mA0))) (mDc (mCall 2 F_many_fitting (mAc (mVar 3) (mAc (mVar 12) mA0))) mD0))) (mAc (mLst (mDc (mCount (mVar 5) (mVar 12)) (mDc (mUn (gSc1 lenD) (mVar 13)) mD0))) mA0))))) (mRet 1 (mC (.bool false))) mNext) [S, g, s2, .d (encB b), s4, .d (.list ((lotsI b).map tupD)), s6, s7, s8, s9, s10, s11, .d (tupD l), .own (.lst (((lotsI b).filter (fitL l)).map tupD)), s14, s15, .no, s17, s18, .no, .no] = some (.nx, [S, g, s2, .d (encB b), s4, .d (.list ((lotsI b).map tupD)), s6, s7, s8, s9, s10, s11, .d (tupD l), .own (.lst (((lotsI b).filter (fitL l)).map tupD)), s14, s15, .no, s17, s18, .no, .no]) := by
  have e1 := cnt_of (i := 5) (mx := mVar 12) (L := lotsI b) (l := l) (Γ := [S, g, s2, .d (encB b), s4, .d (.list ((lotsI b).map tupD)), s6, s7, s8, s9, s10, s11, .d (tupD l), .own (.lst (((lotsI b).filter (fitL l)).map tupD)), s14, s15, .no, s17, s18, .no, .no]) rfl (ev_vd rfl)
  have e2 := len_var (i := 13) (Γ := [S, g, s2, .d (encB b), s4, .d (.list ((lotsI b).map tupD)), s6, s7, s8, s9, s10, s11, .d (tupD l), .own (.lst (((lotsI b).filter (fitL l)).map tupD)), s14, s15, .no, s17, s18, .no, .no]) rfl
  rw [List.length_map] at e2
  exact alike_no (d := .list [.int ((lotsI b).count l : Int), .int (((lotsI b).filter (fitL l)).length : Int)]) (Γ1 := [S, g, s2, .d (encB b), s4, .d (.list ((lotsI b).map tupD)), s6, s7, s8, s9, s10, s11, .d (tupD l), .own (.lst (((lotsI b).filter (fitL l)).map tupD)), s14, s15, .no, s17, s18, .no, .no]) (Γ2 := [S, g, s2, .d (encB b), s4, .d (.list ((lotsI b).map tupD)), s6, s7, s8, s9, s10, s11, .d (tupD l), .own (.lst (((lotsI b).filter (fitL l)).map tupD)), s14, s15, .no, s17, s18, .no, .no]) (lst_of (dc_d (call2 (ev_vd rfl) (ev_vd rfl) (e_telling hb) rfl) (dc_d (call2 (ev_vd rfl) (ev_vd rfl) (e_fitting hb (by omega)) rfl) rfl)) (by simp)) (lst_of (dc_d e1 (dc_d e2 rfl)) (by simp)) rfl .lst .lst rfl (by simp only [szA_list, szAll, szA_int]; omega)
theorem a_miss {β : Bag} (h : OkBag β) (hb : OkBk b) : ∃ m β1, OkBag β1 ∧ m ≤ 1000 ∧ (mSet (setS 14) (mCall 2 F__law_take (mAc (mVar 1) (mAc (mBin gAdd (mUn (gSc1 lenD) (mBin gIx (mVar 3) (mC (.int 2)))) (mC (.int 2))) mA0)))) [S, .own (encBag β), s2, .d (encB b), s4, s5, s6, s7, s8, s9, s10, s11, s12, s13, s14, s15, .no, s17, s18, .no, .no] = some (.nx, [S, .own (encBag β1), s2, .d (encB b), s4, s5, s6, s7, s8, s9, s10, s11, s12, s13, .d (.int ((m : Nat) : Int)), s15, .no, s17, s18, .no, .no]) := by
  have h4 := hb.1.2.1
  obtain ⟨v, β1, ev, v0, v1, h1⟩ := e_take (n := (b.traits.length : Int) + 2) h (by omega) (by omega)
  obtain ⟨m, rfl⟩ : ∃ m : Nat, v = m := ⟨v.toNat, by omega⟩
  refine ⟨m, β1, h1, by omega, ?_⟩
  have cl : mBin gAdd (mUn (gSc1 lenD) (mBin gIx (mVar 3) (mC (.int 2)))) (mC (.int 2)) [S, .own (encBag β), s2, .d (encB b), s4, s5, s6, s7, s8, s9, s10, s11, s12, s13, s14, s15, .no, s17, s18, .no, .no] = some (.d (.int ((b.traits.length : Int) + 2)), [S, .own (encBag β), s2, .d (encB b), s4, s5, s6, s7, s8, s9, s10, s11, s12, s13, s14, s15, .no, s17, s18, .no, .no]) := by simp [encB]
  exact set_of (call_of (ss := [.bor 1, .d (.int ((b.traits.length : Int) + 2))]) (ac_p (ev_vo rfl) (ac_p cl rfl)) rfl ev) rfl
theorem a_ways (hb : OkBk b) {k m : Nat} (hk : k < b.kinds.length) : (mSet (setS 15) (mLc (mSeqI (mVar 4)) (setS 16) (mB (mBin gEq (mUn (gSc1 lenD) (mCall 3 F__law_misses (mAc (mVar 3) (mAc (mVar 18) (mAc (mVar 16) mA0))))) (mVar 14))) (mVar 16) [16])) [S, g, s2, .d (encB b), .d (.list ((wholesI b).map tupD)), s5, s6, s7, s8, s9, s10, s11, s12, s13, .d (.int ((m : Nat) : Int)), s15, .no, s17, .d (.int ((k : Nat) : Int)), .no, .no] = some (.nx, [S, g, s2, .d (encB b), .d (.list ((wholesI b).map tupD)), s5, s6, s7, s8, s9, s10, s11, s12, s13, .d (.int ((m : Nat) : Int)), .own (.lst (((wholesI b).filter fun w => decide ((missK b k w).length = m)).map tupD)), .no, s17, .d (.int ((k : Nat) : Int)), .no, .no]) := by
  have h81 := wholes_len hb.1
  have e := lc_filter (mi := mSeqI (mVar 4)) (g := setS 16) (mt := mB (mBin gEq (mUn (gSc1 lenD) (mCall 3 F__law_misses (mAc (mVar 3) (mAc (mVar 18) (mAc (mVar 16) mA0))))) (mVar 14))) (me := mVar 16) (vs := [16]) (Γ := [S, g, s2, .d (encB b), .d (.list ((wholesI b).map tupD)), s5, s6, s7, s8, s9, s10, s11, s12, s13, .d (.int ((m : Nat) : Int)), s15, .no, s17, .d (.int ((k : Nat) : Int)), .no, .no]) (Γ0 := [S, g, s2, .d (encB b), .d (.list ((wholesI b).map tupD)), s5, s6, s7, s8, s9, s10, s11, s12, s13, .d (.int ((m : Nat) : Int)), s15, .no, s17, .d (.int ((k : Nat) : Int)), .no, .no]) (ts := wholesI b) tupD (fun w => decide ((missK b k w).length = m)) tupD (by simp) rfl (fun w hw => by
    have em := e_lmissK hb (wholes_ok hb.1 hw) hk
    have el := len_tup (Γ := [S, g, s2, .d (encB b), .d (.list ((wholesI b).map tupD)), s5, s6, s7, s8, s9, s10, s11, s12, s13, .d (.int ((m : Nat) : Int)), s15, .d (tupD w), s17, .d (.int ((k : Nat) : Int)), .no, .no]) (call3 (a := mVar 3) (b := mVar 18) (c := mVar 16) (ev_vd rfl) (ev_vd rfl) (ev_vd rfl) em rfl)
    refine lc_stepB (Γ1 := [S, g, s2, .d (encB b), .d (.list ((wholesI b).map tupD)), s5, s6, s7, s8, s9, s10, s11, s12, s13, .d (.int ((m : Nat) : Int)), s15, .d (tupD w), s17, .d (.int ((k : Nat) : Int)), .no, .no]) (Γ2 := [S, g, s2, .d (encB b), .d (.list ((wholesI b).map tupD)), s5, s6, s7, s8, s9, s10, s11, s12, s13, .d (.int ((m : Nat) : Int)), s15, .d (tupD w), s17, .d (.int ((k : Nat) : Int)), .no, .no]) (Γ3 := [S, g, s2, .d (encB b), .d (.list ((wholesI b).map tupD)), s5, s6, s7, s8, s9, s10, s11, s12, s13, .d (.int ((m : Nat) : Int)), s15, .d (tupD w), s17, .d (.int ((k : Nat) : Int)), .no, .no]) rfl (mB_of (bin_of (t := .d (.int ((m : Nat) : Int))) (Γ2 := [S, g, s2, .d (encB b), .d (.list ((wholesI b).map tupD)), s5, s6, s7, s8, s9, s10, s11, s12, s13, .d (.int ((m : Nat) : Int)), s15, .d (tupD w), s17, .d (.int ((k : Nat) : Int)), .no, .no]) el (ev_vd rfl) ?_)) (ev_vd rfl) rfl rfl
    have : decide (((missK b k w).length : Int) = m) = decide ((missK b k w).length = m) := decide_eq_decide.mpr ⟨fun z => by omega, fun z => by omega⟩
    simp only [gEq, gSc, ev_viewd, Option.bind_some, ev_eqii, this]) (by show _ ≤ 1000000; omega)
  exact set_of e rfl
theorem kin_len {k : Nat} : ((lotsI b).filter fun its => its.contains (k : Int)).length = ((wholesI b).filter fun w => fitK b w k && decide (k < b.kinds.length)).length := by
  unfold lotsI
  rw [List.filter_map, List.length_map]
  congr 1
  refine List.filter_congr fun w _ => ?_
  rw [Function.comp_def, Bool.eq_iff_iff, List.contains_iff_mem, castN_mem]
  unfold toldN
  rw [List.mem_filter, List.mem_range, Bool.and_eq_true, decide_eq_true_eq]
  exact ⟨fun h => ⟨h.2, h.1⟩, fun h => ⟨h.2, h.1⟩⟩
theorem a_alike3 (hb : OkBk b) {k m : Nat} {l : Row} (hk : k < b.kinds.length) (hm : m ≤ 1000) : (mIfS (mNotT (mTru (mCall 2 F__law_alike (mAc (mLst (mDc (mCall 3 F_ways_for (mAc (mVar 3) (mAc (mVar 18) (mAc (mVar 14) mA0)))) (mDc (mCall 2 F_many_of_kind (mAc (mVar 3) (mAc (mVar 18) mA0))) mD0))) (mAc (mLst (mDc (mUn (gSc1 lenD) (mVar 15)) (mDc (mUn (gSc1 lenD) (mLc (mSeqI (mVar 5)) (setS 12) (mB (mBin gIn (mVar 18) (mVar 12))) (mVar 12) [12])) mD0))) mA0))))) (mRet 1 (mC (.bool false))) mNext) [S, g, s2, .d (encB b), s4, .d (.list ((lotsI b).map tupD)), s6, s7, s8, s9, s10, s11, .d (tupD l), s13, .d (.int ((m : Nat) : Int)), .own (.lst (((wholesI b).filter fun w => decide ((missK b k w).length = m)).map tupD)), .no, s17, .d (.int ((k : Nat) : Int)), .no, .no] = some (.nx, [S, g, s2, .d (encB b), s4, .d (.list ((lotsI b).map tupD)), s6, s7, s8, s9, s10, s11, .d (tupD l), s13, .d (.int ((m : Nat) : Int)), .own (.lst (((wholesI b).filter fun w => decide ((missK b k w).length = m)).map tupD)), .no, s17, .d (.int ((k : Nat) : Int)), .no, .no]) := by
  have h81 := lots_len hb
  have e2 := len_var (i := 15) (Γ := [S, g, s2, .d (encB b), s4, .d (.list ((lotsI b).map tupD)), s6, s7, s8, s9, s10, s11, .d (tupD l), s13, .d (.int ((m : Nat) : Int)), .own (.lst (((wholesI b).filter fun w => decide ((missK b k w).length = m)).map tupD)), .no, s17, .d (.int ((k : Nat) : Int)), .no, .no]) rfl
  rw [List.length_map] at e2
  have e := lc_filter (mi := mSeqI (mVar 5)) (g := setS 12) (mt := mB (mBin gIn (mVar 18) (mVar 12))) (me := mVar 12) (vs := [12]) (Γ := [S, g, s2, .d (encB b), s4, .d (.list ((lotsI b).map tupD)), s6, s7, s8, s9, s10, s11, .d (tupD l), s13, .d (.int ((m : Nat) : Int)), .own (.lst (((wholesI b).filter fun w => decide ((missK b k w).length = m)).map tupD)), .no, s17, .d (.int ((k : Nat) : Int)), .no, .no]) (Γ0 := [S, g, s2, .d (encB b), s4, .d (.list ((lotsI b).map tupD)), s6, s7, s8, s9, s10, s11, .d (tupD l), s13, .d (.int ((m : Nat) : Int)), .own (.lst (((wholesI b).filter fun w => decide ((missK b k w).length = m)).map tupD)), .no, s17, .d (.int ((k : Nat) : Int)), .no, .no]) (ts := lotsI b) tupD (fun its => its.contains (k : Int)) tupD (by simp) rfl (fun its _ => by
    exact lc_stepB (Γ1 := [S, g, s2, .d (encB b), s4, .d (.list ((lotsI b).map tupD)), s6, s7, s8, s9, s10, s11, .d (tupD its), s13, .d (.int ((m : Nat) : Int)), .own (.lst (((wholesI b).filter fun w => decide ((missK b k w).length = m)).map tupD)), .no, s17, .d (.int ((k : Nat) : Int)), .no, .no]) (Γ2 := [S, g, s2, .d (encB b), s4, .d (.list ((lotsI b).map tupD)), s6, s7, s8, s9, s10, s11, .d (tupD its), s13, .d (.int ((m : Nat) : Int)), .own (.lst (((wholesI b).filter fun w => decide ((missK b k w).length = m)).map tupD)), .no, s17, .d (.int ((k : Nat) : Int)), .no, .no]) (Γ3 := [S, g, s2, .d (encB b), s4, .d (.list ((lotsI b).map tupD)), s6, s7, s8, s9, s10, s11, .d (tupD its), s13, .d (.int ((m : Nat) : Int)), .own (.lst (((wholesI b).filter fun w => decide ((missK b k w).length = m)).map tupD)), .no, s17, .d (.int ((k : Nat) : Int)), .no, .no]) rfl (mB_of (its_in rfl rfl)) (ev_vd rfl) rfl rfl) (by show _ ≤ 1000000; omega)
  have e3 := len_own e
  rw [List.length_map, kin_len] at e3
  have ek : (fun w => fitK b w k && decide (k < b.kinds.length)) = fun w => fitK b w k := by funext w; simp [hk]
  rw [ek] at e3
  exact alike_no (d := .list [.int (missN b k m : Int), .int (((wholesI b).filter fun w => fitK b w k).length : Int)]) (Γ1 := [S, g, s2, .d (encB b), s4, .d (.list ((lotsI b).map tupD)), s6, s7, s8, s9, s10, s11, .d (tupD l), s13, .d (.int ((m : Nat) : Int)), .own (.lst (((wholesI b).filter fun w => decide ((missK b k w).length = m)).map tupD)), .no, s17, .d (.int ((k : Nat) : Int)), .no, .no]) (Γ2 := [S, g, s2, .d (encB b), s4, .d (.list ((lotsI b).map tupD)), s6, s7, s8, s9, s10, s11, .d (tupD l), s13, .d (.int ((m : Nat) : Int)), .own (.lst (((wholesI b).filter fun w => decide ((missK b k w).length = m)).map tupD)), .no, s17, .d (.int ((k : Nat) : Int)), .no, .no]) (lst_of (dc_d (call3 (ev_vd rfl) (ev_vd rfl) (ev_vd rfl) (e_ways hb hk hm) rfl) (dc_d (call2 (ev_vd rfl) (ev_vd rfl) (e_ofkind hb hk) rfl) rfl)) (by simp)) (lst_of (dc_d e2 (dc_d e3 rfl)) (by simp)) rfl .lst .lst rfl (by simp only [szA_list, szAll, szA_int]; omega)
end
end K60

set_option Elab.async false
set_option linter.all false
set_option maxRecDepth 100000
set_option maxHeartbeats 4000000
namespace K60
open PySem DL
abbrev bodyAG : MS := (mSeq (mSet (setT 2 (setC (setS 17) (setC (setS 18) setN))) (mTup (mDc (mCall 2 F__law_reading (mAc (mVar 1) (mAc (mVar 3) mA0))) (mDc (mCall 2 F__law_take (mAc (mVar 1) (mAc (mUn (gSc1 lenD) (mBin gIx (mVar 3) (mC (.int 3)))) mA0))) mD0)))) (mSeq (mIfS (mNotT (mTru (mCall 2 F__law_alike (mAc (mCall 2 F_tally_from (mAc (mVar 3) (mAc (mVar 17) mA0))) (mAc (mCall 2 F__law_counted (mAc (mVar 3) (mAc (mCall 2 F__law_on (mAc (mVar 3) (mAc (mVar 17) mA0))) mA0))) mA0))))) (mRet 1 (mC (.bool false))) mNext) (mSeq (mSet (setS 12) (mCall 2 F__law_some (mAc (mVar 1) (mAc (mBin gAdd (mVar 5) (mLst (mDc (mTup mD0) (mDc (mTup (mDc (mVar 18) mD0)) (mDc (mUn gTuple (mUn gListRg (mUn (gSc1 lenD) (mBin gIx (mVar 3) (mC (.int 3)))))) mD0))))) mA0)))) (mSeq (mSet (setS 13) (mLc (mSeqI (mVar 5)) (setS 19) (mB (mBin gEq (mLc (mSeqI (mVar 12)) (setS 20) (mB (mBin gNin (mVar 20) (mVar 19))) (mVar 20) [20]) (mLst mD0))) (mVar 19) [19])) (mSeq (mIfS (mNotT (mTru (mCall 2 F__law_alike (mAc (mLst (mDc (mCall 2 F_many_telling (mAc (mVar 3) (mAc (mVar 12) mA0))) (mDc (mCall 2 F_many_fitting (mAc (mVar 3) (mAc (mVar 12) mA0))) mD0))) (mAc (mLst (mDc (mCount (mVar 5) (mVar 12)) (mDc (mUn (gSc1 lenD) (mVar 13)) mD0))) mA0))))) (mRet 1 (mC (.bool false))) mNext) (mSeq (mSet (setS 14) (mCall 2 F__law_take (mAc (mVar 1) (mAc (mBin gAdd (mUn (gSc1 lenD) (mBin gIx (mVar 3) (mC (.int 2)))) (mC (.int 2))) mA0)))) (mSeq (mSet (setS 15) (mLc (mSeqI (mVar 4)) (setS 16) (mB (mBin gEq (mUn (gSc1 lenD) (mCall 3 F__law_misses (mAc (mVar 3) (mAc (mVar 18) (mAc (mVar 16) mA0))))) (mVar 14))) (mVar 16) [16])) (mIfS (mNotT (mTru (mCall 2 F__law_alike (mAc (mLst (mDc (mCall 3 F_ways_for (mAc (mVar 3) (mAc (mVar 18) (mAc (mVar 14) mA0)))) (mDc (mCall 2 F_many_of_kind (mAc (mVar 3) (mAc (mVar 18) mA0))) mD0))) (mAc (mLst (mDc (mUn (gSc1 lenD) (mVar 15)) (mDc (mUn (gSc1 lenD) (mLc (mSeqI (mVar 5)) (setS 12) (mB (mBin gIn (mVar 18) (mVar 12))) (mVar 12) [12])) mD0))) mA0))))) (mRet 1 (mC (.bool false))) mNext))))))))
abbrev bodyR : MS := (mSeq (mSet (setS 3) (mCall 2 F__law_turned (mAc (mVar 1) (mAc (mCall 1 F__law_book (mAc (mVar 1) mA0)) mA0)))) (mSeq (mSet (setS 4) (mCall 1 F__law_wholes (mAc (mVar 3) mA0))) (mSeq (mSet (setS 5) (mLc (mSeqI (mVar 4)) (setS 16) mYes (mCall 2 F__law_told (mAc (mVar 3) (mAc (mVar 16) mA0))) [16])) (mSeq (mSet (setS 6) (mLc (mSeqI (mVar 5)) (setS 12) (mB (mBin gEq (mUn (gSc1 lenD) (mVar 12)) (mC (.int 1)))) (mVar 12) [12])) (mSeq (mSet (setS 7) (mLc (mSeqI (mVar 5)) (setS 12) (mB (mBin gEq (mUn (gSc1 lenD) (mCall 2 F__law_groups (mAc (mVar 3) (mAc (mVar 12) mA0)))) (mC (.int 1)))) (mVar 12) [12])) (mSeq (mSet (setS 8) (mLst (mDc (mCall 1 F_tally (mAc (mVar 3) mA0)) (mDc (mCall 1 F_many_strange (mAc (mVar 3) mA0)) (mDc (mCall 1 F_many_sure (mAc (mVar 3) mA0)) (mDc (mCall 1 F_many_sure_of_group (mAc (mVar 3) mA0)) (mDc (mCall 1 F_kinds_in_all (mAc (mVar 3) mA0)) mD0))))))) (mSeq (mSet (setS 9) (mLst (mDc (mCall 2 F__law_counted (mAc (mVar 3) (mAc (mVar 4) mA0))) (mDc (mCount (mVar 5) (mTup mD0)) (mDc (mUn (gSc1 lenD) (mVar 6)) (mDc (mUn (gSc1 lenD) (mVar 7)) (mDc (mTup (mDc (mUn (gSc1 sumD) (mLc (mSeqI (mVar 5)) (setS 12) mYes (mUn (gSc1 lenD) (mVar 12)) [12])) (mDc (mUn (gSc1 lenD) (mVar 4)) mD0))) mD0))))))) (mSeq (mIfS (mNotT (mTru (mCall 2 F__law_alike (mAc (mVar 8) (mAc (mVar 9) mA0))))) (mRet 1 (mC (.bool false))) mNext) (mSeq (mSet (setS 10) (mUn gTuple (mLc (mRange1 (mUn (gSc1 lenD) (mBin gIx (mVar 3) (mC (.int 3))))) (setS 18) (mB (mBin gNinL (mTup (mDc (mVar 18) mD0)) (mVar 5))) (mVar 18) [18]))) (mSeq (mIfS (mNotT (mTru (mCall 2 F__law_alike (mAc (mCall 1 F_never_told (mAc (mVar 3) mA0)) (mAc (mVar 10) mA0))))) (mRet 1 (mC (.bool false))) mNext) (mFor (mRange1 (mC (.int 4))) (setS 11) bodyAG)))))))))))
section
variable {S s2 s4 s5 s6 s7 s8 s9 s10 s11 s12 s13 s14 s15 s17 s18 : DL.Slot} {b : Bk}
theorem ag_ok {β : Bag} (h : OkBag β) (hb : OkBk b) : ∃ β' x12 u13 u14 u15 u17 x18, OkBag β' ∧ bodyAG [S, .own (encBag β), s2, .d (encB b), .d (.list ((wholesI b).map tupD)), .d (.list ((lotsI b).map tupD)), s6, s7, s8, s9, s10, s11, s12, s13, s14, s15, .no, s17, s18, .no, .no] = some (.nx, [S, .own (encBag β'), s2, .d (encB b), .d (.list ((wholesI b).map tupD)), .d (.list ((lotsI b).map tupD)), s6, s7, s8, s9, s10, s11, .d x12, u13, u14, u15, .no, u17, .d x18, .no, .no]) := by
  obtain ⟨r, k, β1, h1, hr, hk, q0⟩ := a_read (S := S) (s2 := s2) (s4 := .d (.list ((wholesI b).map tupD))) (s5 := .d (.list ((lotsI b).map tupD))) (s6 := s6) (s7 := s7) (s8 := s8) (s9 := s9) (s10 := s10) (s11 := s11) (s12 := s12) (s13 := s13) (s14 := s14) (s15 := s15) (s17 := s17) (s18 := s18) h hb
  obtain ⟨l, β2, h2, hl, q2⟩ := a_lot (S := S) (s2 := s2) (s4 := .d (.list ((wholesI b).map tupD))) (s6 := s6) (s7 := s7) (s8 := s8) (s9 := s9) (s10 := s10) (s11 := s11) (s12 := s12) (s13 := s13) (s14 := s14) (s15 := s15) (s17 := .d (tupD r)) h1 hb (k := k)
  obtain ⟨m, β3, h3, hm, q5⟩ := a_miss (S := S) (s2 := s2) (s4 := .d (.list ((wholesI b).map tupD))) (s5 := .d (.list ((lotsI b).map tupD))) (s6 := s6) (s7 := s7) (s8 := s8) (s9 := s9) (s10 := s10) (s11 := s11) (s12 := .d (tupD l)) (s13 := .own (.lst (((lotsI b).filter (fitL l)).map tupD))) (s14 := s14) (s15 := s15) (s17 := .d (tupD r)) (s18 := .d (.int ((k : Nat) : Int))) h2 hb
  exact ⟨β3, tupD l, _, _, _, _, _, h3, seq_nx q0 (seq_nx (a_alike1 hb hr) (seq_nx q2 (seq_nx (a_fit hb hl) (seq_nx (a_alike2 hb hl) (seq_nx q5 (seq_nx (a_ways hb hk) (a_alike3 hb hk hm)))))))⟩
def OkS (s : DL.Slot) : Prop := s = .no ∨ ∃ x, s = .d x
theorem body_ok {β : Bag} {s3 : DL.Slot} (h : OkBag β) (h12 : OkS s12) (h18 : OkS s18) : ∃ β' s3' s4' s5' s6' s7' s8' s9' s10' s11' s12' s13' s14' s15' s17' s18', OkBag β' ∧ OkS s12' ∧ OkS s18' ∧
    bodyR [S, .own (encBag β), s2, s3, s4, s5, s6, s7, s8, s9, s10, s11, s12, s13, s14, s15, .no, s17, s18, .no, .no] = some (.nx, [S, .own (encBag β'), s2, s3', s4', s5', s6', s7', s8', s9', s10', s11', s12', s13', s14', s15', .no, s17', s18', .no, .no]) := by
  obtain ⟨b0, β1, e1, h1, hb0⟩ := e_book h
  obtain ⟨b, β2, e2, h2, hb⟩ := e_turned h1 hb0
  obtain ⟨R, er, hR⟩ := e_wholes hb.1
  have hkR : keepable R = true := by rcases hR with rfl | rfl <;> rfl
  have x12 : ∃ x, s12 = .no ∨ s12 = .d x := by rcases h12 with z | ⟨x, z⟩; exact ⟨.none, .inl z⟩; exact ⟨x, .inr z⟩
  have x18 : ∃ x, s18 = .no ∨ s18 = .d x := by rcases h18 with z | ⟨x, z⟩; exact ⟨.none, .inl z⟩; exact ⟨x, .inr z⟩
  obtain ⟨x12, y12⟩ := x12
  obtain ⟨x18, y18⟩ := x18
  have r0 : (mSet (setS 3) (mCall 2 F__law_turned (mAc (mVar 1) (mAc (mCall 1 F__law_book (mAc (mVar 1) mA0)) mA0)))) [S, .own (encBag β), s2, s3, s4, s5, s6, s7, s8, s9, s10, s11, s12, s13, s14, s15, .no, s17, s18, .no, .no] = some (.nx, [S, .own (encBag β2), s2, .d (encB b), s4, s5, s6, s7, s8, s9, s10, s11, s12, s13, s14, s15, .no, s17, s18, .no, .no]) :=
    set_of (s := .d (encB b)) (Γ1 := [S, .own (encBag β2), s2, s3, s4, s5, s6, s7, s8, s9, s10, s11, s12, s13, s14, s15, .no, s17, s18, .no, .no]) (call_of (ss := [.bor 1, .d (encB b0)]) (Γ1 := [S, .own (encBag β1), s2, s3, s4, s5, s6, s7, s8, s9, s10, s11, s12, s13, s14, s15, .no, s17, s18, .no, .no]) (ac_p (ev_vo rfl) (ac_of (call_of (ss := [.bor 1]) (ac_p (ev_vo rfl) rfl) rfl e1) rfl)) rfl e2) rfl
  have r1 : (mSet (setS 4) (mCall 1 F__law_wholes (mAc (mVar 3) mA0))) [S, .own (encBag β2), s2, .d (encB b), s4, s5, s6, s7, s8, s9, s10, s11, s12, s13, s14, s15, .no, s17, s18, .no, .no] = some (.nx, [S, .own (encBag β2), s2, .d (encB b), R, s5, s6, s7, s8, s9, s10, s11, s12, s13, s14, s15, .no, s17, s18, .no, .no]) := by
    have c := call1 (a := mVar 3) (Γ := [S, .own (encBag β2), s2, .d (encB b), s4, s5, s6, s7, s8, s9, s10, s11, s12, s13, s14, s15, .no, s17, s18, .no, .no]) (Γ1 := [S, .own (encBag β2), s2, .d (encB b), s4, s5, s6, s7, s8, s9, s10, s11, s12, s13, s14, s15, .no, s17, s18, .no, .no]) (ev_vd rfl) rfl er hkR
    rcases hR with rfl | rfl
    · exact set_of c rfl
    · exact set_of c rfl
  -- the inner loop
  obtain ⟨Γ', el, ⟨β3, t11, t12, t13, t14, t15, t17, t18, h3, k12, k18, rfl⟩⟩ := forL_inv (g := setS 11) (mb := bodyAG) PyData.int (fun Γ => ∃ β t11 t12 t13 t14 t15 t17 t18, OkBag β ∧ OkS t12 ∧ OkS t18 ∧ Γ = [S, .own (encBag β), s2, .d (encB b), .d (.list ((wholesI b).map tupD)), .d (.list ((lotsI b).map tupD)), .own (.lst (((lotsI b).filter fun l : Row => decide (l.length = 1)).map tupD)), .own (.lst (((lotsI b).filter (oneG b)).map tupD)), .d (.list (dueD b)), .d (.list (dueD b)), .d (tupD (nevI b)), t11, t12, t13, t14, t15, .no, t17, t18, .no, .no]) (ts := rngI 4)
    (Γ := [S, .own (encBag β2), s2, .d (encB b), .d (.list ((wholesI b).map tupD)), .d (.list ((lotsI b).map tupD)), .own (.lst (((lotsI b).filter fun l : Row => decide (l.length = 1)).map tupD)), .own (.lst (((lotsI b).filter (oneG b)).map tupD)), .d (.list (dueD b)), .d (.list (dueD b)), .d (tupD (nevI b)), s11, s12, s13, s14, s15, .no, s17, s18, .no, .no]) ⟨β2, s11, s12, s13, s14, s15, s17, s18, h2, h12, h18, rfl⟩ (by
    rintro x _ _ ⟨β, t11, t12, t13, t14, t15, t17, t18, h, k12, k18, rfl⟩
    obtain ⟨β', y12, u13, u14, u15, u17, y18, h', q⟩ := ag_ok (S := S) (s2 := s2) (s6 := .own (.lst (((lotsI b).filter fun l : Row => decide (l.length = 1)).map tupD))) (s7 := .own (.lst (((lotsI b).filter (oneG b)).map tupD))) (s8 := .d (.list (dueD b))) (s9 := .d (.list (dueD b))) (s10 := .d (tupD (nevI b))) (s11 := .d (.int x)) (s12 := t12) (s13 := t13) (s14 := t14) (s15 := t15) (s17 := t17) (s18 := t18) h hb
    refine ⟨_, ?_, β', .d (.int x), .d y12, u13, u14, u15, u17, .d y18, h', .inr ⟨y12, rfl⟩, .inr ⟨y18, rfl⟩, rfl⟩
    have es : setS 11 (.d (.int x)) [S, .own (encBag β), s2, .d (encB b), .d (.list ((wholesI b).map tupD)), .d (.list ((lotsI b).map tupD)), .own (.lst (((lotsI b).filter fun l : Row => decide (l.length = 1)).map tupD)), .own (.lst (((lotsI b).filter (oneG b)).map tupD)), .d (.list (dueD b)), .d (.list (dueD b)), .d (tupD (nevI b)), t11, t12, t13, t14, t15, .no, t17, t18, .no, .no] = some [S, .own (encBag β), s2, .d (encB b), .d (.list ((wholesI b).map tupD)), .d (.list ((lotsI b).map tupD)), .own (.lst (((lotsI b).filter fun l : Row => decide (l.length = 1)).map tupD)), .own (.lst (((lotsI b).filter (oneG b)).map tupD)), .d (.list (dueD b)), .d (.list (dueD b)), .d (tupD (nevI b)), .d (.int x), t12, t13, t14, t15, .no, t17, t18, .no, .no] := by simp
    unfold forStep
    rw [es]
    exact q)
  refine ⟨β3, .d (encB b), .d (.list ((wholesI b).map tupD)), .d (.list ((lotsI b).map tupD)), .own (.lst (((lotsI b).filter fun l : Row => decide (l.length = 1)).map tupD)), .own (.lst (((lotsI b).filter (oneG b)).map tupD)), .d (.list (dueD b)), .d (.list (dueD b)), .d (tupD (nevI b)), t11, t12, t13, t14, t15, t17, t18, h3, k12, k18, ?_⟩
  exact seq_nx r0 (seq_nx r1 (seq_nx (r_lots hb hR) (seq_nx (r_sure hb y12) (seq_nx (r_grouped hb y12) (seq_nx (r_told hb) (seq_nx (r_due hb y12) (seq_nx (r_alike1 hb) (seq_nx (r_never hb y18) (seq_nx (r_alike2 hb) ((for_of (rng_x (x := 4) rfl (by decide) (by decide))).trans el))))))))))
end

theorem law_true (ns : List Int) (h : ns.length ≤ 63) : ∃ args', F_law [.d (.list (ns.map PyData.int))] = some (.d (.bool true), args') := by
  obtain ⟨β, e, hb⟩ := e_bag h
  obtain ⟨Γ', el, ⟨β1, s2, s3, s4, s5, s6, s7, s8, s9, s10, s11, s12, s13, s14, s15, s17, s18, hb1, k12, k18, rfl⟩⟩ := forL_inv (g := setS 2) (mb := bodyR) PyData.int (fun Γ => ∃ β s2 s3 s4 s5 s6 s7 s8 s9 s10 s11 s12 s13 s14 s15 s17 s18, OkBag β ∧ OkS s12 ∧ OkS s18 ∧ Γ = [.d (.list (ns.map PyData.int)), .own (encBag β), s2, s3, s4, s5, s6, s7, s8, s9, s10, s11, s12, s13, s14, s15, .no, s17, s18, .no, .no]) (ts := rngI 4) (Γ := [.d (.list (ns.map PyData.int)), .own (encBag β), .no, .no, .no, .no, .no, .no, .no, .no, .no, .no, .no, .no, .no, .no, .no, .no, .no, .no, .no]) ⟨β, .no, .no, .no, .no, .no, .no, .no, .no, .no, .no, .no, .no, .no, .no, .no, .no, hb, .inl rfl, .inl rfl, rfl⟩ (by
    rintro x _ _ ⟨β, s2, s3, s4, s5, s6, s7, s8, s9, s10, s11, s12, s13, s14, s15, s17, s18, hb, k12, k18, rfl⟩
    obtain ⟨β', t3, t4, t5, t6, t7, t8, t9, t10, t11, t12, t13, t14, t15, t17, t18, h', j12, j18, q⟩ := body_ok (S := .d (.list (ns.map PyData.int))) (s2 := .d (.int x)) (s3 := s3) (s4 := s4) (s5 := s5) (s6 := s6) (s7 := s7) (s8 := s8) (s9 := s9) (s10 := s10) (s11 := s11) (s12 := s12) (s13 := s13) (s14 := s14) (s15 := s15) (s17 := s17) (s18 := s18) hb k12 k18
    refine ⟨[.d (.list (ns.map PyData.int)), .own (encBag β'), .d (.int x), t3, t4, t5, t6, t7, t8, t9, t10, t11, t12, t13, t14, t15, .no, t17, t18, .no, .no], ?_, β', .d (.int x), t3, t4, t5, t6, t7, t8, t9, t10, t11, t12, t13, t14, t15, t17, t18, h', j12, j18, rfl⟩
    have es : setS 2 (.d (.int x)) [.d (.list (ns.map PyData.int)), .own (encBag β), s2, s3, s4, s5, s6, s7, s8, s9, s10, s11, s12, s13, s14, s15, .no, s17, s18, .no, .no] = some [.d (.list (ns.map PyData.int)), .own (encBag β), .d (.int x), s3, s4, s5, s6, s7, s8, s9, s10, s11, s12, s13, s14, s15, .no, s17, s18, .no, .no] := by simp
    unfold forStep
    rw [es]
    exact q)
  refine ⟨_, ev_run (Γ' := [.d (.list (ns.map PyData.int)), .own (encBag β1), s2, s3, s4, s5, s6, s7, s8, s9, s10, s11, s12, s13, s14, s15, .no, s17, s18, .no, .no]) rfl rfl ?_ rfl⟩
  exact seq_nx (set_of (call1 (ev_vd rfl) rfl e rfl) (show setS 1 _ _ = some [.d (.list (ns.map PyData.int)), .own (encBag β), .no, .no, .no, .no, .no, .no, .no, .no, .no, .no, .no, .no, .no, .no, .no, .no, .no, .no, .no] from rfl)) (seq_nx ((for_of (rng_x (x := 4) rfl (by decide) (by decide))).trans el) (ret_of rfl rfl))
end K60

set_option Elab.async false
set_option linter.all false
set_option maxRecDepth 100000
set_option maxHeartbeats 0
namespace K60
open PySem PySem.Spec PyProof.Rows L2 DL
def dd_nothing_read : He.DefD := ⟨("nothing_read", none), "nothing_read", "nothing_read", defArgs s_nothing_read, defBody s_nothing_read, defScope s_nothing_read, [], []⟩
def dd_showers : He.DefD := ⟨("showers", none), "showers", "showers", defArgs s_showers, defBody s_showers, defScope s_showers, [], []⟩
def dd_traits_of : He.DefD := ⟨("traits_of", none), "traits_of", "traits_of", defArgs s_traits_of, defBody s_traits_of, defScope s_traits_of, [], []⟩
def dd_columns_from : He.DefD := ⟨("columns_from", none), "columns_from", "columns_from", defArgs s_columns_from, defBody s_columns_from, defScope s_columns_from, [], []⟩
def dd_missed : He.DefD := ⟨("missed", none), "missed", "missed", defArgs s_missed, defBody s_missed, defScope s_missed, [], []⟩
def dd_lot_of_row : He.DefD := ⟨("lot_of_row", none), "lot_of_row", "lot_of_row", defArgs s_lot_of_row, defBody s_lot_of_row, defScope s_lot_of_row, [], []⟩
def dd_ways_for : He.DefD := ⟨("ways_for", none), "ways_for", "ways_for", defArgs s_ways_for, defBody s_ways_for, defScope s_ways_for, [], []⟩
def dd__law_bag : He.DefD := ⟨("_law_bag", none), "_law_bag", "_law_bag", defArgs s__law_bag, defBody s__law_bag, defScope s__law_bag, [], []⟩
def dd__law_take : He.DefD := ⟨("_law_take", none), "_law_take", "_law_take", defArgs s__law_take, defBody s__law_take, defScope s__law_take, [], []⟩
def dd__law_alike : He.DefD := ⟨("_law_alike", none), "_law_alike", "_law_alike", defArgs s__law_alike, defBody s__law_alike, defScope s__law_alike, [], []⟩
def dd__law_rows_of : He.DefD := ⟨("_law_rows_of", none), "_law_rows_of", "_law_rows_of", defArgs s__law_rows_of, defBody s__law_rows_of, defScope s__law_rows_of, [], []⟩
def dd__law_misses : He.DefD := ⟨("_law_misses", none), "_law_misses", "_law_misses", defArgs s__law_misses, defBody s__law_misses, defScope s__law_misses, [], []⟩
def dd__law_groups : He.DefD := ⟨("_law_groups", none), "_law_groups", "_law_groups", defArgs s__law_groups, defBody s__law_groups, defScope s__law_groups, [], []⟩
def dd_classes_of : He.DefD := ⟨("classes_of", none), "classes_of", "classes_of", defArgs s_classes_of, defBody s_classes_of, defScope s_classes_of, [], []⟩
def dd_many_from : He.DefD := ⟨("many_from", none), "many_from", "many_from", defArgs s_many_from, defBody s_many_from, defScope s_many_from, [], []⟩
def dd_many_of_kind : He.DefD := ⟨("many_of_kind", none), "many_of_kind", "many_of_kind", defArgs s_many_of_kind, defBody s_many_of_kind, defScope s_many_of_kind, [], []⟩
def dd__law_some : He.DefD := ⟨("_law_some", none), "_law_some", "_law_some", defArgs s__law_some, defBody s__law_some, defScope s__law_some, [], []⟩
def dd__law_told : He.DefD := ⟨("_law_told", none), "_law_told", "_law_told", defArgs s__law_told, defBody s__law_told, defScope s__law_told, [], []⟩
def dd__law_wholes : He.DefD := ⟨("_law_wholes", none), "_law_wholes", "_law_wholes", defArgs s__law_wholes, defBody s__law_wholes, defScope s__law_wholes, [], []⟩
def dd__law_states : He.DefD := ⟨("_law_states", none), "_law_states", "_law_states", defArgs s__law_states, defBody s__law_states, defScope s__law_states, [], []⟩
def dd__law_reading : He.DefD := ⟨("_law_reading", none), "_law_reading", "_law_reading", defArgs s__law_reading, defBody s__law_reading, defScope s__law_reading, [], []⟩
def dd_columns_by : He.DefD := ⟨("columns_by", none), "columns_by", "columns_by", defArgs s_columns_by, defBody s_columns_by, defScope s_columns_by, [], []⟩
def dd__law_a_kind : He.DefD := ⟨("_law_a_kind", none), "_law_a_kind", "_law_a_kind", defArgs s__law_a_kind, defBody s__law_a_kind, defScope s__law_a_kind, [], []⟩
def dd__law_counted : He.DefD := ⟨("_law_counted", none), "_law_counted", "_law_counted", defArgs s__law_counted, defBody s__law_counted, defScope s__law_counted, [], []⟩
def dd__law_on : He.DefD := ⟨("_law_on", none), "_law_on", "_law_on", defArgs s__law_on, defBody s__law_on, defScope s__law_on, [], []⟩
def dd_rows_behind : He.DefD := ⟨("rows_behind", none), "rows_behind", "rows_behind", defArgs s_rows_behind, defBody s_rows_behind, defScope s_rows_behind, [], []⟩
def dd__law_book : He.DefD := ⟨("_law_book", none), "_law_book", "_law_book", defArgs s__law_book, defBody s__law_book, defScope s__law_book, [], []⟩
def dd__law_turned : He.DefD := ⟨("_law_turned", none), "_law_turned", "_law_turned", defArgs s__law_turned, defBody s__law_turned, defScope s__law_turned, [], []⟩
def dd_tally_from : He.DefD := ⟨("tally_from", none), "tally_from", "tally_from", defArgs s_tally_from, defBody s_tally_from, defScope s_tally_from, [], []⟩
def dd_tally : He.DefD := ⟨("tally", none), "tally", "tally", defArgs s_tally, defBody s_tally, defScope s_tally, [], []⟩
def dd_many_telling : He.DefD := ⟨("many_telling", none), "many_telling", "many_telling", defArgs s_many_telling, defBody s_many_telling, defScope s_many_telling, [], []⟩
def dd_many_fitting : He.DefD := ⟨("many_fitting", none), "many_fitting", "many_fitting", defArgs s_many_fitting, defBody s_many_fitting, defScope s_many_fitting, [], []⟩
def dd_many_sure : He.DefD := ⟨("many_sure", none), "many_sure", "many_sure", defArgs s_many_sure, defBody s_many_sure, defScope s_many_sure, [], []⟩
def dd_many_sure_of_group : He.DefD := ⟨("many_sure_of_group", none), "many_sure_of_group", "many_sure_of_group", defArgs s_many_sure_of_group, defBody s_many_sure_of_group, defScope s_many_sure_of_group, [], []⟩
def dd_kinds_in_all : He.DefD := ⟨("kinds_in_all", none), "kinds_in_all", "kinds_in_all", defArgs s_kinds_in_all, defBody s_kinds_in_all, defScope s_kinds_in_all, [], []⟩
def dd_never_told : He.DefD := ⟨("never_told", none), "never_told", "never_told", defArgs s_never_told, defBody s_never_told, defScope s_never_told, [], []⟩
def dd_many_strange : He.DefD := ⟨("many_strange", none), "many_strange", "many_strange", defArgs s_many_strange, defBody s_many_strange, defScope s_many_strange, [], []⟩
def dd_law : He.DefD := ⟨("law", none), "law", "law", defArgs s_law, defBody s_law, defScope s_law, [], []⟩
def fnH : List He.DefD := [dd_nothing_read, dd_showers, dd_traits_of, dd_columns_from, dd_missed, dd_lot_of_row, dd_ways_for, dd__law_bag, dd__law_take, dd__law_alike, dd__law_rows_of, dd__law_misses, dd__law_groups, dd_classes_of, dd_many_from, dd_many_of_kind, dd__law_some, dd__law_told, dd__law_wholes, dd__law_states, dd__law_reading, dd_columns_by, dd__law_a_kind, dd__law_counted, dd__law_on, dd_rows_behind, dd__law_book, dd__law_turned, dd_tally_from, dd_tally, dd_many_telling, dd_many_fitting, dd_many_sure, dd_many_sure_of_group, dd_kinds_in_all, dd_never_told, dd_many_strange, dd_law]
def faH : List He.Fa := [.free "abs", .free "all", .free "bool", .free "dict", .free "enumerate", .free "int", .free "isinstance", .free "len", .free "list", .free "min", .free "range", .free "set", .free "sorted", .free "str", .free "sum", .free "tuple", .free "zip", .int "ERRORS" (1), .int "KINDS" (3), .int "MOST" (1), .int "MOST_ROWS" (5000), .int "SHOWS" (2), .int "TRAITS" (2), .int "UNREAD_plain" (-1), .int "UNREAD_readings" (-1), .glo "nothing_read", .glo "showers", .glo "traits_of", .glo "columns_from", .glo "missed", .glo "lot_of_row", .glo "ways_for", .glo "_law_bag", .glo "_law_take", .glo "_law_alike", .glo "_law_rows_of", .glo "_law_misses", .glo "_law_groups", .glo "classes_of", .glo "many_from", .glo "many_of_kind", .glo "_law_some", .glo "_law_told", .glo "_law_wholes", .glo "_law_states", .glo "_law_reading", .glo "columns_by", .glo "_law_a_kind", .glo "_law_counted", .glo "_law_on", .glo "rows_behind", .glo "_law_book", .glo "_law_turned", .glo "tally_from", .glo "tally", .glo "many_telling", .glo "many_fitting", .glo "many_sure", .glo "many_sure_of_group", .glo "kinds_in_all", .glo "never_told", .glo "many_strange", .glo "law"]
def tfH : List He.Defn := []
def exH (K : PySem.W.Frag) : Bool := (K.all fun q => !(q.2.cls == .type "list"))
abbrev R : PySem.W.OpenRow := PySem.W.OpenLaw.row PySem.Challenge.rw_kindkey_k60_counts_of_readings_by_what_t
abbrev hk : PySem.W.Hook := He.hookX 5 faH fnH [] tfH exH
def ob (s : PySem.W.SharedT) : He.AlX := He.obsX 5 faH fnH [] tfH exH (HandSHeadRun.getT s)
theorem ob_eq (s : PySem.W.SharedT) : ob s = hk.obs s.abs := He.obsX_eq (HandSHeadRun.getT_eq s)
def loose0 : List Str := ["_wall", "KindError", "TooMany", "UNREAD_plain", "nothing_read", "TRAITS", "KINDS", "MOST", "SHOWS", "UNREAD_readings", "showers", "classes_of", "traits_of", "columns_from", "many_from", "ERRORS", "MOST_ROWS", "columns_by", "missed", "rows_behind", "lot_of_row", "tally_from", "tally", "many_telling", "many_fitting", "many_strange", "many_sure", "many_sure_of_group", "ways_for", "many_of_kind"]
def loose1 : List Str := ["kinds_in_all", "never_told", "_law_bag", "_law_take", "_law_some", "_law_alike", "_law_rows_of", "_law_misses", "_law_told", "_law_groups", "_law_wholes", "_law_states", "_law_a_kind", "_law_book", "_law_turned", "_law_reading", "_law_counted", "_law_on"]
def looseH : List Str := loose0 ++ loose1
theorem runH (w : World) : HandSHeadRun.RunEq R (PySem.W.view R.prog [53]) hk ob 6000 looseH w := by
  intro os
  kernel_rfl
abbrev tabsI (K : PySem.W.Frag) : TabsC := ⟨tfH.map fun p => ((He.cT K p).2, ((p.1 ++ ".<locals>.") ++ "<lambda>"))⟩
theorem fxH {w : World} {K : PySem.W.Frag} {h base : Heap} {mg : Str → Option Value} (X : K.In base) (G : base.Ns mainGlobals mg) (c : He.SaysX faH fnH [] tfH exH w h K) (TB : ∀ p ∈ tfH.map (He.cT K), LamX.TabB base mg p.1 p.2) : Fx K mg base :=
  letI := tabsI K
  {fr_abs := He.free_ok X G (c.t.d.fact 0 (f := .free "abs") rfl),
    fr_all := He.free_ok X G (c.t.d.fact 1 (f := .free "all") rfl),
    fr_bool := He.free_ok X G (c.t.d.fact 2 (f := .free "bool") rfl),
    fr_dict := He.free_ok X G (c.t.d.fact 3 (f := .free "dict") rfl),
    fr_enumerate := He.free_ok X G (c.t.d.fact 4 (f := .free "enumerate") rfl),
    fr_int := He.free_ok X G (c.t.d.fact 5 (f := .free "int") rfl),
    fr_isinstance := He.free_ok X G (c.t.d.fact 6 (f := .free "isinstance") rfl),
    fr_len := He.free_ok X G (c.t.d.fact 7 (f := .free "len") rfl),
    fr_list := He.free_ok X G (c.t.d.fact 8 (f := .free "list") rfl),
    fr_min := He.free_ok X G (c.t.d.fact 9 (f := .free "min") rfl),
    fr_range := He.free_ok X G (c.t.d.fact 10 (f := .free "range") rfl),
    fr_set := He.free_ok X G (c.t.d.fact 11 (f := .free "set") rfl),
    fr_sorted := He.free_ok X G (c.t.d.fact 12 (f := .free "sorted") rfl),
    fr_str := He.free_ok X G (c.t.d.fact 13 (f := .free "str") rfl),
    fr_sum := He.free_ok X G (c.t.d.fact 14 (f := .free "sum") rfl),
    fr_tuple := He.free_ok X G (c.t.d.fact 15 (f := .free "tuple") rfl),
    fr_zip := He.free_ok X G (c.t.d.fact 16 (f := .free "zip") rfl),
    c_ERRORS := He.int_ok X G (c.t.d.fact 17 (f := .int "ERRORS" (1)) rfl),
    c_KINDS := He.int_ok X G (c.t.d.fact 18 (f := .int "KINDS" (3)) rfl),
    c_MOST := He.int_ok X G (c.t.d.fact 19 (f := .int "MOST" (1)) rfl),
    c_MOST_ROWS := He.int_ok X G (c.t.d.fact 20 (f := .int "MOST_ROWS" (5000)) rfl),
    c_SHOWS := He.int_ok X G (c.t.d.fact 21 (f := .int "SHOWS" (2)) rfl),
    c_TRAITS := He.int_ok X G (c.t.d.fact 22 (f := .int "TRAITS" (2)) rfl),
    c_UNREAD_plain := He.int_ok X G (c.t.d.fact 23 (f := .int "UNREAD_plain" (-1)) rfl),
    c_UNREAD_readings := He.int_ok X G (c.t.d.fact 24 (f := .int "UNREAD_readings" (-1)) rfl),
    fd_nothing_read := let ⟨fd, FD⟩ := c.t.d.def_ 0 (d := dd_nothing_read) rfl; ⟨_, fd, FD, He.glo_ok X G (c.t.d.fact 25 (f := .glo "nothing_read") rfl)⟩,
    fd_showers := let ⟨fd, FD⟩ := c.t.d.def_ 1 (d := dd_showers) rfl; ⟨_, fd, FD, He.glo_ok X G (c.t.d.fact 26 (f := .glo "showers") rfl)⟩,
    fd_traits_of := let ⟨fd, FD⟩ := c.t.d.def_ 2 (d := dd_traits_of) rfl; ⟨_, fd, FD, He.glo_ok X G (c.t.d.fact 27 (f := .glo "traits_of") rfl)⟩,
    fd_columns_from := let ⟨fd, FD⟩ := c.t.d.def_ 3 (d := dd_columns_from) rfl; ⟨_, fd, FD, He.glo_ok X G (c.t.d.fact 28 (f := .glo "columns_from") rfl)⟩,
    fd_missed := let ⟨fd, FD⟩ := c.t.d.def_ 4 (d := dd_missed) rfl; ⟨_, fd, FD, He.glo_ok X G (c.t.d.fact 29 (f := .glo "missed") rfl)⟩,
    fd_lot_of_row := let ⟨fd, FD⟩ := c.t.d.def_ 5 (d := dd_lot_of_row) rfl; ⟨_, fd, FD, He.glo_ok X G (c.t.d.fact 30 (f := .glo "lot_of_row") rfl)⟩,
    fd_ways_for := let ⟨fd, FD⟩ := c.t.d.def_ 6 (d := dd_ways_for) rfl; ⟨_, fd, FD, He.glo_ok X G (c.t.d.fact 31 (f := .glo "ways_for") rfl)⟩,
    fd__law_bag := let ⟨fd, FD⟩ := c.t.d.def_ 7 (d := dd__law_bag) rfl; ⟨_, fd, FD, He.glo_ok X G (c.t.d.fact 32 (f := .glo "_law_bag") rfl)⟩,
    fd__law_take := let ⟨fd, FD⟩ := c.t.d.def_ 8 (d := dd__law_take) rfl; ⟨_, fd, FD, He.glo_ok X G (c.t.d.fact 33 (f := .glo "_law_take") rfl)⟩,
    fd__law_alike := let ⟨fd, FD⟩ := c.t.d.def_ 9 (d := dd__law_alike) rfl; ⟨_, fd, FD, He.glo_ok X G (c.t.d.fact 34 (f := .glo "_law_alike") rfl)⟩,
    fd__law_rows_of := let ⟨fd, FD⟩ := c.t.d.def_ 10 (d := dd__law_rows_of) rfl; ⟨_, fd, FD, He.glo_ok X G (c.t.d.fact 35 (f := .glo "_law_rows_of") rfl)⟩,
    fd__law_misses := let ⟨fd, FD⟩ := c.t.d.def_ 11 (d := dd__law_misses) rfl; ⟨_, fd, FD, He.glo_ok X G (c.t.d.fact 36 (f := .glo "_law_misses") rfl)⟩,
    fd__law_groups := let ⟨fd, FD⟩ := c.t.d.def_ 12 (d := dd__law_groups) rfl; ⟨_, fd, FD, He.glo_ok X G (c.t.d.fact 37 (f := .glo "_law_groups") rfl)⟩,
    fd_classes_of := let ⟨fd, FD⟩ := c.t.d.def_ 13 (d := dd_classes_of) rfl; ⟨_, fd, FD, He.glo_ok X G (c.t.d.fact 38 (f := .glo "classes_of") rfl)⟩,
    fd_many_from := let ⟨fd, FD⟩ := c.t.d.def_ 14 (d := dd_many_from) rfl; ⟨_, fd, FD, He.glo_ok X G (c.t.d.fact 39 (f := .glo "many_from") rfl)⟩,
    fd_many_of_kind := let ⟨fd, FD⟩ := c.t.d.def_ 15 (d := dd_many_of_kind) rfl; ⟨_, fd, FD, He.glo_ok X G (c.t.d.fact 40 (f := .glo "many_of_kind") rfl)⟩,
    fd__law_some := let ⟨fd, FD⟩ := c.t.d.def_ 16 (d := dd__law_some) rfl; ⟨_, fd, FD, He.glo_ok X G (c.t.d.fact 41 (f := .glo "_law_some") rfl)⟩,
    fd__law_told := let ⟨fd, FD⟩ := c.t.d.def_ 17 (d := dd__law_told) rfl; ⟨_, fd, FD, He.glo_ok X G (c.t.d.fact 42 (f := .glo "_law_told") rfl)⟩,
    fd__law_wholes := let ⟨fd, FD⟩ := c.t.d.def_ 18 (d := dd__law_wholes) rfl; ⟨_, fd, FD, He.glo_ok X G (c.t.d.fact 43 (f := .glo "_law_wholes") rfl)⟩,
    fd__law_states := let ⟨fd, FD⟩ := c.t.d.def_ 19 (d := dd__law_states) rfl; ⟨_, fd, FD, He.glo_ok X G (c.t.d.fact 44 (f := .glo "_law_states") rfl)⟩,
    fd__law_reading := let ⟨fd, FD⟩ := c.t.d.def_ 20 (d := dd__law_reading) rfl; ⟨_, fd, FD, He.glo_ok X G (c.t.d.fact 45 (f := .glo "_law_reading") rfl)⟩,
    fd_columns_by := let ⟨fd, FD⟩ := c.t.d.def_ 21 (d := dd_columns_by) rfl; ⟨_, fd, FD, He.glo_ok X G (c.t.d.fact 46 (f := .glo "columns_by") rfl)⟩,
    fd__law_a_kind := let ⟨fd, FD⟩ := c.t.d.def_ 22 (d := dd__law_a_kind) rfl; ⟨_, fd, FD, He.glo_ok X G (c.t.d.fact 47 (f := .glo "_law_a_kind") rfl)⟩,
    fd__law_counted := let ⟨fd, FD⟩ := c.t.d.def_ 23 (d := dd__law_counted) rfl; ⟨_, fd, FD, He.glo_ok X G (c.t.d.fact 48 (f := .glo "_law_counted") rfl)⟩,
    fd__law_on := let ⟨fd, FD⟩ := c.t.d.def_ 24 (d := dd__law_on) rfl; ⟨_, fd, FD, He.glo_ok X G (c.t.d.fact 49 (f := .glo "_law_on") rfl)⟩,
    fd_rows_behind := let ⟨fd, FD⟩ := c.t.d.def_ 25 (d := dd_rows_behind) rfl; ⟨_, fd, FD, He.glo_ok X G (c.t.d.fact 50 (f := .glo "rows_behind") rfl)⟩,
    fd__law_book := let ⟨fd, FD⟩ := c.t.d.def_ 26 (d := dd__law_book) rfl; ⟨_, fd, FD, He.glo_ok X G (c.t.d.fact 51 (f := .glo "_law_book") rfl)⟩,
    fd__law_turned := let ⟨fd, FD⟩ := c.t.d.def_ 27 (d := dd__law_turned) rfl; ⟨_, fd, FD, He.glo_ok X G (c.t.d.fact 52 (f := .glo "_law_turned") rfl)⟩,
    fd_tally_from := let ⟨fd, FD⟩ := c.t.d.def_ 28 (d := dd_tally_from) rfl; ⟨_, fd, FD, He.glo_ok X G (c.t.d.fact 53 (f := .glo "tally_from") rfl)⟩,
    fd_tally := let ⟨fd, FD⟩ := c.t.d.def_ 29 (d := dd_tally) rfl; ⟨_, fd, FD, He.glo_ok X G (c.t.d.fact 54 (f := .glo "tally") rfl)⟩,
    fd_many_telling := let ⟨fd, FD⟩ := c.t.d.def_ 30 (d := dd_many_telling) rfl; ⟨_, fd, FD, He.glo_ok X G (c.t.d.fact 55 (f := .glo "many_telling") rfl)⟩,
    fd_many_fitting := let ⟨fd, FD⟩ := c.t.d.def_ 31 (d := dd_many_fitting) rfl; ⟨_, fd, FD, He.glo_ok X G (c.t.d.fact 56 (f := .glo "many_fitting") rfl)⟩,
    fd_many_sure := let ⟨fd, FD⟩ := c.t.d.def_ 32 (d := dd_many_sure) rfl; ⟨_, fd, FD, He.glo_ok X G (c.t.d.fact 57 (f := .glo "many_sure") rfl)⟩,
    fd_many_sure_of_group := let ⟨fd, FD⟩ := c.t.d.def_ 33 (d := dd_many_sure_of_group) rfl; ⟨_, fd, FD, He.glo_ok X G (c.t.d.fact 58 (f := .glo "many_sure_of_group") rfl)⟩,
    fd_kinds_in_all := let ⟨fd, FD⟩ := c.t.d.def_ 34 (d := dd_kinds_in_all) rfl; ⟨_, fd, FD, He.glo_ok X G (c.t.d.fact 59 (f := .glo "kinds_in_all") rfl)⟩,
    fd_never_told := let ⟨fd, FD⟩ := c.t.d.def_ 35 (d := dd_never_told) rfl; ⟨_, fd, FD, He.glo_ok X G (c.t.d.fact 60 (f := .glo "never_told") rfl)⟩,
    fd_many_strange := let ⟨fd, FD⟩ := c.t.d.def_ 36 (d := dd_many_strange) rfl; ⟨_, fd, FD, He.glo_ok X G (c.t.d.fact 61 (f := .glo "many_strange") rfl)⟩,
    fd_law := let ⟨fd, FD⟩ := c.t.d.def_ 37 (d := dd_law) rfl; ⟨_, fd, FD, He.glo_ok X G (c.t.d.fact 62 (f := .glo "law") rfl)⟩ }
theorem lawAt (hlaw : ∀ ns : List Int, ns.length ≤ 63 → ∃ args', F_law [.d (.list (ns.map PyData.int))] = some (.d (.bool true), args')) {w : World} {K : PySem.W.Frag} {h : Heap} {mg : Str → Option Value} {fa : Addr} (X : K.In h) (G : h.Ns mainGlobals mg) (hfa : mg ("law" : Str) = some (.ref fa)) (c : He.SaysX faH fnH [] tfH exH w h K) :
    LamX.LawAtS PySem.Challenge.rw_kindkey_k60_counts_of_readings_by_what_t w K L2.CX0 9 63 "script" mg fa h := by
  letI := tabsI K
  obtain ⟨fd, FD⟩ := c.t.d.def_ 37 (d := dd_law) rfl
  have e := hfa.symm.trans (He.glo_ok X G (c.t.d.fact 62 (f := .glo "law") rfl))
  cases e
  have b := FunD.bindsA (ps := ["script"]) FD fun _ _ _ _ _ _ us hl => match us, hl with | [_], _ => rfl
  refine ⟨fd, tfH.map (He.cT K), spF K 1 F_law, fun p hp => ?_, fun p hp => ?_, fun p hp => ?_, fun s v => b s [v] rfl, fun H a ns hl _ hH hS => ?_, fun base KB GB TB => okF_law (fxH KB GB c TB) FD⟩
  · obtain ⟨q, hq, rfl⟩ := List.mem_map.mp hp
    exact c.empty q hq
  · obtain ⟨q, hq, rfl⟩ := List.mem_map.mp hp
    exact c.out q hq
  · obtain ⟨q, hq, rfl⟩ := List.mem_map.mp hp
    exact PySem.W.codeHd_of_K X (c.hd q hq)
  · refine start_law (no_lists c.more) hS (tabs_nil fun p hp => ?_) (hlaw ns hl) fun _ => rfl
    obtain ⟨q, hq, rfl⟩ := List.mem_map.mp hp
    exact hH _ (List.mem_map.mpr ⟨q, hq, rfl⟩)
end K60
open PySem PySem.W PySem.Calls PyProof.Rows
theorem PySem.Challenge.cw_kindkey_k60_counts_of_readings_by_what_t_holds : PySem.Challenge.rw_kindkey_k60_counts_of_readings_by_what_t.Holds := by
  w_on; o_law
  refine HandSHeadRun.head_any (r := OpenLaw.row PySem.Challenge.rw_kindkey_k60_counts_of_readings_by_what_t) (q := view (OpenLaw.row PySem.Challenge.rw_kindkey_k60_counts_of_readings_by_what_t).prog [53]) (H := K60.hk) (ob := K60.ob) (M := 6000) (loose := K60.looseH) (d := HandSHeadRun.topDef (OpenLaw.row PySem.Challenge.rw_kindkey_k60_counts_of_readings_by_what_t).prog 53) (kwd := []) K60.ob_eq
    (by kernel_rfl) (fun s => by kernel_rfl) K60.runH (by kernel_rfl) (by kernel_rfl) (by kernel_rfl) (by rfl) (by first | assumption | decide +kernel) (by decide +kernel) ⟨rfl, rfl, rfl, rfl, rfl, by decide +kernel⟩ ?hw ?hc
  case hw => w_witness2
  case hc =>
    refine LamX.walk_ofTsE (l := PySem.Challenge.rw_kindkey_k60_counts_of_readings_by_what_t) (n := 63) (k := 9) (x := "script") (CX := fun _ => L2.CX0) rfl (by decide) (by kernel_rfl) ⟨rfl, by decide, by decide⟩ ?F (fun _ _ _ _ _ z => z)
    intro w mg fa h Y G hmg0
    obtain ⟨K, KX, c⟩ := Y
    have hmg : mg ("law" : PySem.Str) = some (.ref fa) := by
      have e : (HandSHeadRun.topDef (OpenLaw.row PySem.Challenge.rw_kindkey_k60_counts_of_readings_by_what_t).prog 53).name = ("law" : PySem.Str) := by kernel_rfl
      rw [← e]
      exact hmg0
    exact ⟨K, KX, K60.lawAt K60.law_true KX G hmg c⟩

