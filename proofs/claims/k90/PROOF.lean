import PyProof.Rows.All
import Wide.All
import OpenK.AllK
import Wide.FinOn
import HandS.ForMost
import HandS.Exc
import HandS.ExcOwn
import HandS.WordsExc
import HandS.Deep
import HandS.TupAny
import HandS.Walk
import HandS.IsInst
import HandS.Text
import HandS.More
import HandS.TupLe
import HandS.WordsDict
import HandS.SortInts
import HandS.CallSlots
import HandS.Zip
import KE.GoesNew
import KE.GoesEnum
import HandS.Comp
import HandS.TryOnly
import HandS.Small
import HandS.DictComp
import HandS.SetBool
import HandS.Strs
import KE.DataMinMax
import KE.KUnpackStar
import HandS.Ends
import PySem.Challenge.RW_giveway_k90_whole_ways_and_bars_of_rows
set_option Elab.async false
set_option linter.all false
set_option maxRecDepth 100000
set_option maxHeartbeats 1000000
namespace Fy
open PySem PySem.Spec L2

/-- data: what never changes -/
inductive D where
  | non | bl (b : Bool) | int (i : Int) | str (x : Str)
  | tup (xs : List D) | lst (xs : List D) | scr (xs : List D) | dic (t : Bool) (ks vs : List D) | loc (l : Nat) | gl (x : Str)
/-- things with owners -/
inductive T where
  | d (x : D) | fl (xs : List D) | fd (t : Bool) (ks vs : List D) | nl (xs : List T) | tp (xs : List T)
/-- what stands in the store -/
inductive I8 where
  | box (t : T) | ins (c : Str) (fs : List (Str × T))
structure Xn where
  c : Str
  fs : List (Str × D)
/-- the abstract state: slots, store, whether the store may be written -/
structure Q8 where
  r : List (Option T)
  s : List I8
  w : Bool
inductive Rs (α : Type) where
  | ok (a : α) | exc (e : Xn) | no
inductive Out (α : Type) where
  | ok (a : α) (q : Q8) | exc (e : Xn) (q : Q8) | no
abbrev E8 := Q8 → Rs D
abbrev M8 := Q8 → Out D

def keyK : D → Option Key
  | .int i => some (.inl i)
  | .str x => some (.inr x)
  | _ => none
def keysK : List D → Option (List Key)
  | [] => some []
  | x :: xs => match keyK x, keysK xs with
    | some k, some ks => some (k :: ks)
    | _, _ => none
def keyT : D → Option (List Key)
  | .tup xs => keysK xs
  | _ => none
def keysT : List D → Option (List (List Key))
  | [] => some []
  | x :: xs => match keyT x, keysT xs with
    | some k, some ks => some (k :: ks)
    | _, _ => none

section
variable (K : PySem.W.Frag) (mg : Str → Option Value)
def KTup (a : Addr) (vs : List V) : Prop :=
  ∃ (o : Obj) (its : Array Value) (n : Nat), K.lookup a = some o ∧ o.cls = .type "tuple" ∧ o.data = .seq its n ∧ its.size ≤ sizeLine ∧ Vals vs its.toList
def KLst (a : Addr) (vs : List V) : Prop :=
  ∃ (o : Obj) (its : Array Value) (n : Nat), K.lookup a = some o ∧ o.cls = .type "list" ∧ o.dict = none ∧ o.data = .seq its n ∧ its.size ≤ sizeLine ∧ Vals vs its.toList
def TupAt (ow : Addr → Prop) (H : Hp) (a : Addr) (vs : List V) : Prop := (H a = some (.tup vs) ∧ ¬ ow a) ∨ KTup K a vs
def ScrAt (ow : Addr → Prop) (H : Hp) (a : Addr) (vs : List V) : Prop := ((∃ o, H a = some (.frz o (.lst vs))) ∧ ¬ ow a) ∨ KLst K a vs
/-- a dict object of the keys ks with the values ws -/
def DicO : Bool → List D → List V → HO → Prop
  | false, ks, ws, o => ∃ kk, keysK ks = some kk ∧ ws.length = kk.length ∧ o = .dK (kk.zip ws)
  | true, ks, ws, o => ∃ kk, keysT ks = some kk ∧ ws.length = kk.length ∧ o = .dT (kk.zip ws)

variable (m : List Addr) (ow : Addr → Prop) (H : Hp)
mutual
def DRep : D → V → Prop
  | .non, v => v = .non
  | .bl b, v => v = .bl b
  | .int i, v => v = .int i
  | .str x, v => v = .str x
  | .tup xs, v => ∃ a vs, v = .ref a ∧ TupAt K ow H a vs ∧ DReps xs vs
  | .lst xs, v => ∃ a vs, v = .ref a ∧ H a = some (.lst vs) ∧ ¬ ow a ∧ DReps xs vs
  | .scr xs, v => ∃ a vs, v = .ref a ∧ ScrAt K ow H a vs ∧ DReps xs vs
  | .dic t ks xs, v => ∃ a vs o, v = .ref a ∧ H a = some o ∧ ¬ ow a ∧ DicO t ks vs o ∧ DReps xs vs
  | .loc l, v => ∃ a, m[l]? = some a ∧ v = .ref a
  | .gl x, v => ∃ a, mg x = some (.ref a) ∧ v = .ref a
def DReps : List D → List V → Prop
  | [], vs => vs = []
  | x :: xs, vs => ∃ v r, vs = v :: r ∧ DRep x v ∧ DReps xs r
end
mutual
def TRep : T → V → List Addr → Prop
  | .d x, v, l => DRep K mg m ow H x v ∧ l = []
  | .fl xs, v, l => ∃ a vs, v = .ref a ∧ H a = some (.lst vs) ∧ DReps K mg m ow H xs vs ∧ l = [a]
  | .fd t ks xs, v, l => ∃ a vs o, v = .ref a ∧ H a = some o ∧ DicO t ks vs o ∧ DReps K mg m ow H xs vs ∧ l = [a]
  | .nl ts, v, l => ∃ a vs l', v = .ref a ∧ H a = some (.lst vs) ∧ TReps ts vs l' ∧ l = a :: l'
  | .tp ts, v, l => ∃ a vs, v = .ref a ∧ TupAt K ow H a vs ∧ TReps ts vs l
def TReps : List T → List V → List Addr → Prop
  | [], vs, l => vs = [] ∧ l = []
  | t :: ts, vs, l => ∃ v r l1 l2, vs = v :: r ∧ TRep t v l1 ∧ TReps ts r l2 ∧ l = l1 ++ l2
end
def SRep1 : I8 → Addr → List Addr → Prop
  | .box t, a, l => TRep K mg m ow H t (.ref a) l ∧ ∀ x, t ≠ .d x
  | .ins c fs, a, l => ∃ C dx vs l', mg c = some (.ref C) ∧ H a = some (.ins C dx ((fs.map (·.1)).zip vs)) ∧ H dx = some (.own a) ∧ TReps K mg m ow H (fs.map (·.2)) vs l' ∧ l = a :: dx :: l'
def SReps : List I8 → List Addr → List Addr → Prop
  | [], as, l => as = [] ∧ l = []
  | i :: is, as, l => ∃ a r l1 l2, as = a :: r ∧ SRep1 K mg m ow H i a l1 ∧ SReps is r l2 ∧ l = l1 ++ l2
def ERep : List (Option T) → L2.St → List Addr → Prop
  | [], σ, l => σ = [] ∧ l = []
  | none :: ρ, σ, l => ∃ x r, σ = x :: r ∧ ERep ρ r l
  | some t :: ρ, σ, l => ∃ v r l1 l2, σ = some v :: r ∧ TRep K mg m ow H t v l1 ∧ ERep ρ r l2 ∧ l = l1 ++ l2
end

/-- the world of a state: where the store's things are; what is owned and may be written; what is owned elsewhere -/
structure Wd where
  m : List Addr
  fp : List Addr
  oo : Addr → Prop
  ro : Addr → Prop
def Wd.ow (w : Wd) (a : Addr) : Prop := a ∈ w.fp ∨ w.oo a

structure Rp (K : PySem.W.Frag) (mg : Str → Option Value) (q : Q8) (σ : L2.St) (H : Hp) (w : Wd) : Prop where
  ex : ∃ l1 l2, ERep K mg w.m w.ow H q.r σ l1 ∧ SReps K mg w.m w.ow H q.s w.m l2 ∧ (l1 ++ l2).Nodup ∧
    ((q.w = true ∧ w.fp = l1 ++ l2) ∨ (q.w = false ∧ w.fp = l1 ∧ ∀ a ∈ l2, w.ro a))
  ro : ∀ a, w.ro a → w.oo a
  apart : ∀ a ∈ w.fp, ¬ w.oo a
  there : ∀ a, w.ow a → H a ≠ none

/-- what happened between: p: nothing of what stood -/
structure Fr (p : Bool) (H : Hp) (w : Wd) (H' : Hp) (w' : Wd) : Prop where
  keep : ∀ a o, H a = some o → a ∉ w.fp → H' a = some o
  out : ∀ a, H a ≠ none → a ∉ w.fp → a ∉ w'.fp
  oo : w'.oo = w.oo
  ro : w'.ro = w.ro
  m : w.m <+: w'.m
  pure : p = true → w' = w ∧ ∀ a o, H a = some o → H' a = some o

section
variable {K : PySem.W.Frag} {mg : Str → Option Value} {m m' : List Addr} {ow ow' : Addr → Prop} {H H' : Hp}
/-- what a thing needs of a change -/
structure Mo (m m' : List Addr) (ow ow' : Addr → Prop) (l : List Addr) (H H' : Hp) : Prop where
  m : m <+: m'
  k : ∀ a o, H a = some o → (¬ ow a ∨ a ∈ l) → H' a = some o
  o : ∀ a, H a ≠ none → ¬ ow a → ¬ ow' a
theorem Mo.sub {l l' : List Addr} (x : Mo m m' ow ow' l H H') (h : ∀ a ∈ l', a ∈ l) : Mo m m' ow ow' l' H H' :=
  ⟨x.m, fun a o e z => x.k a o e (z.imp id (h a)), x.o⟩
theorem TupAt.mono {l : List Addr} {a : Addr} {vs : List V} (x : Mo m m' ow ow' l H H') (h : TupAt K ow H a vs) : TupAt K ow' H' a vs := by
  rcases h with ⟨e, n⟩ | h
  · exact .inl ⟨x.k a _ e (.inl n), x.o a (by rw [e]; simp) n⟩
  · exact .inr h
theorem ScrAt.mono {l : List Addr} {a : Addr} {vs : List V} (x : Mo m m' ow ow' l H H') (h : ScrAt K ow H a vs) : ScrAt K ow' H' a vs := by
  rcases h with ⟨⟨o, e⟩, n⟩ | h
  · exact .inl ⟨⟨o, x.k a _ e (.inl n)⟩, x.o a (by rw [e]; simp) n⟩
  · exact .inr h
theorem pre_get {l : Nat} {a : Addr} (h : m <+: m') (e : m[l]? = some a) : m'[l]? = some a := by
  obtain ⟨t, rfl⟩ := h
  rw [List.getElem?_append_left (List.getElem?_eq_some_iff.mp e).1]
  exact e
mutual
theorem DRep.mono {l : List Addr} (x : Mo m m' ow ow' l H H') : ∀ {d : D} {v : V}, DRep K mg m ow H d v → DRep K mg m' ow' H' d v
  | .non, _, h => h
  | .bl _, _, h => h
  | .int _, _, h => h
  | .str _, _, h => h
  | .tup xs, _, ⟨a, vs, e, t, r⟩ => ⟨a, vs, e, t.mono x, DReps.mono x r⟩
  | .lst xs, _, ⟨a, vs, e, h, n, r⟩ => ⟨a, vs, e, x.k a _ h (.inl n), x.o a (by rw [h]; simp) n, DReps.mono x r⟩
  | .scr xs, _, ⟨a, vs, e, t, r⟩ => ⟨a, vs, e, t.mono x, DReps.mono x r⟩
  | .dic _ ks xs, _, ⟨a, vs, o, e, h, n, c, r⟩ => ⟨a, vs, o, e, x.k a o h (.inl n), x.o a (by rw [h]; simp) n, c, DReps.mono x r⟩
  | .loc _, _, ⟨a, e, h⟩ => ⟨a, pre_get x.m e, h⟩
  | .gl _, _, h => h
theorem DReps.mono {l : List Addr} (x : Mo m m' ow ow' l H H') : ∀ {ds : List D} {vs : List V}, DReps K mg m ow H ds vs → DReps K mg m' ow' H' ds vs
  | [], _, h => h
  | _ :: _, _, ⟨v, r, e, h1, h2⟩ => ⟨v, r, e, DRep.mono x h1, DReps.mono x h2⟩
end
mutual
theorem TRep.mono : ∀ {t : T} {v : V} {l : List Addr}, Mo m m' ow ow' l H H' → TRep K mg m ow H t v l → TRep K mg m' ow' H' t v l
  | .d _, _, _, x, ⟨h, e⟩ => ⟨h.mono x, e⟩
  | .fl _, _, _, x, ⟨a, vs, e, h, r, el⟩ => ⟨a, vs, e, x.k a _ h (.inr (by rw [el]; simp)), DReps.mono x r, el⟩
  | .fd _ _ _, _, _, x, ⟨a, vs, o, e, h, c, r, el⟩ => ⟨a, vs, o, e, x.k a _ h (.inr (by rw [el]; simp)), c, DReps.mono x r, el⟩
  | .nl _, _, _, x, ⟨a, vs, l', e, h, r, el⟩ => ⟨a, vs, l', e, x.k a _ h (.inr (by rw [el]; simp)), TReps.mono (x.sub (by rw [el]; intro b hb; exact List.mem_cons_of_mem _ hb)) r, el⟩
  | .tp _, _, _, x, ⟨a, vs, e, h, r⟩ => ⟨a, vs, e, h.mono x, TReps.mono x r⟩
theorem TReps.mono : ∀ {ts : List T} {vs : List V} {l : List Addr}, Mo m m' ow ow' l H H' → TReps K mg m ow H ts vs l → TReps K mg m' ow' H' ts vs l
  | [], _, _, _, h => h
  | _ :: _, _, _, x, ⟨v, r, l1, l2, e, h1, h2, el⟩ => ⟨v, r, l1, l2, e, TRep.mono (x.sub (by rw [el]; intro b hb; exact List.mem_append_left _ hb)) h1, TReps.mono (x.sub (by rw [el]; intro b hb; exact List.mem_append_right _ hb)) h2, el⟩
end
theorem SRep1.mono : ∀ {i : I8} {a : Addr} {l : List Addr}, Mo m m' ow ow' l H H' → SRep1 K mg m ow H i a l → SRep1 K mg m' ow' H' i a l
  | .box _, _, _, x, ⟨h, n⟩ => ⟨h.mono x, n⟩
  | .ins _ _, _, _, x, ⟨C, dx, vs, l', hc, h1, h2, h3, el⟩ => ⟨C, dx, vs, l', hc, x.k _ _ h1 (.inr (by rw [el]; simp)), x.k _ _ h2 (.inr (by rw [el]; simp)), h3.mono (x.sub (by rw [el]; intro b hb; exact List.mem_cons_of_mem _ (List.mem_cons_of_mem _ hb))), el⟩
theorem SReps.mono : ∀ {is : List I8} {as : List Addr} {l : List Addr}, Mo m m' ow ow' l H H' → SReps K mg m ow H is as l → SReps K mg m' ow' H' is as l
  | [], _, _, _, h => h
  | _ :: _, _, _, x, ⟨a, r, l1, l2, e, h1, h2, el⟩ => ⟨a, r, l1, l2, e, h1.mono (x.sub (by rw [el]; intro b hb; exact List.mem_append_left _ hb)), SReps.mono (x.sub (by rw [el]; intro b hb; exact List.mem_append_right _ hb)) h2, el⟩
theorem ERep.mono : ∀ {ρ : List (Option T)} {σ : L2.St} {l : List Addr}, Mo m m' ow ow' l H H' → ERep K mg m ow H ρ σ l → ERep K mg m' ow' H' ρ σ l
  | [], _, _, _, h => h
  | none :: _, _, _, x, ⟨y, r, e, h⟩ => ⟨y, r, e, ERep.mono x h⟩
  | some _ :: _, _, _, x, ⟨v, r, l1, l2, e, h1, h2, el⟩ => ⟨v, r, l1, l2, e, h1.mono (x.sub (by rw [el]; intro b hb; exact List.mem_append_left _ hb)), ERep.mono (x.sub (by rw [el]; intro b hb; exact List.mem_append_right _ hb)) h2, el⟩

theorem Fr.refl {p : Bool} {w : Wd} : Fr p H w H w := ⟨fun _ _ h _ => h, fun _ _ h => h, rfl, rfl, List.prefix_refl _, fun _ => ⟨rfl, fun _ _ h => h⟩⟩
theorem Fr.trans {p1 p2 : Bool} {H1 H2 : Hp} {w w1 w2 : Wd} (a : Fr p1 H w H1 w1) (b : Fr p2 H1 w1 H2 w2) : Fr (p1 && p2) H w H2 w2 where
  keep := fun x o e n => b.keep x o (a.keep x o e n) (a.out x (by rw [e]; simp) n)
  out := fun x e n => by
    cases q : H x with
    | none => exact absurd q e
    | some o => exact b.out x (by rw [a.keep x o q n]; simp) (a.out x e n)
  oo := b.oo.trans a.oo
  ro := b.ro.trans a.ro
  m := a.m.trans b.m
  pure := fun h => by
    simp only [Bool.and_eq_true] at h
    obtain ⟨e1, k1⟩ := a.pure h.1
    obtain ⟨e2, k2⟩ := b.pure h.2
    exact ⟨e2.trans e1, fun x o e => k2 x o (k1 x o e)⟩
theorem Fr.loose {p : Bool} {w w' : Wd} (a : Fr p H w H' w') : Fr false H w H' w' := ⟨a.keep, a.out, a.oo, a.ro, a.m, fun h => nomatch h⟩
/-- all is kept -/
theorem Fr.ext {p : Bool} {w : Wd} (k : ∀ a o, H a = some o → H' a = some o) : Fr p H w H' w := ⟨fun x o e _ => k x o e, fun _ _ h => h, rfl, rfl, List.prefix_refl _, fun _ => ⟨rfl, k⟩⟩
/-- data stays through a frame -/
theorem Fr.mo {p : Bool} {w w' : Wd} (f : Fr p H w H' w') : Mo w.m w'.m w.ow w'.ow [] H H' where
  m := f.m
  k := fun a o e z => by
    rcases z with z | z
    · exact f.keep a o e fun h => z (.inl h)
    · exact absurd z (by simp)
  o := fun a e n h => by
    rcases h with h | h
    · exact f.out a e (fun z => n (.inl z)) h
    · rw [f.oo] at h; exact n (.inr h)
theorem mo_ext {l : List Addr} (k : ∀ a o, H a = some o → H' a = some o) : Mo m m ow ow l H H' := ⟨List.prefix_refl _, fun a o e _ => k a o e, fun _ _ h => h⟩
/-- the state stays where all is kept -/
theorem Rp.ext {q : Q8} {σ : L2.St} {w : Wd} (r : Rp K mg q σ H w) (k : ∀ a o, H a = some o → H' a = some o) : Rp K mg q σ H' w where
  ex := by
    obtain ⟨l1, l2, h1, h2, h3⟩ := r.ex
    exact ⟨l1, l2, h1.mono (mo_ext k), h2.mono (mo_ext k), h3⟩
  ro := r.ro
  apart := r.apart
  there := fun a h => by
    cases q : H a with
    | none => exact absurd q (r.there a h)
    | some o => rw [k a o q]; simp
end
end Fy

set_option maxHeartbeats 1000000
namespace Fy
open PySem PySem.Spec L2
section
variable {K : PySem.W.Frag} {mg : Str → Option Value} {m m' : List Addr} {ow ow' : Addr → Prop} {H H' : Hp}

theorem DReps.length : ∀ {ds : List D} {vs : List V}, DReps K mg m ow H ds vs → ds.length = vs.length
  | [], _, h => by
    have e : _ = [] := h
    rw [e]; rfl
  | _ :: _, _, ⟨_, _, e, _, h⟩ => by rw [e, List.length_cons, List.length_cons, DReps.length h]
theorem DReps.get : ∀ {ds : List D} {vs : List V} {i : Nat} {d : D}, DReps K mg m ow H ds vs → ds[i]? = some d → ∃ v, vs[i]? = some v ∧ DRep K mg m ow H d v
  | [], _, _, _, _, e => by simp at e
  | x :: xs, _, 0, d, ⟨v, r, e, h, _⟩, q => by
    have q' : x = d := by simpa using q
    subst q'; rw [e]; exact ⟨v, rfl, h⟩
  | _ :: _, _, i + 1, d, ⟨v, r, e, _, h⟩, q => by
    obtain ⟨u, h1, h2⟩ := DReps.get (i := i) (d := d) h (by simpa using q)
    exact ⟨u, by rw [e]; simpa using h1, h2⟩
theorem DReps.append : ∀ {ds es : List D} {vs ws : List V}, DReps K mg m ow H ds vs → DReps K mg m ow H es ws → DReps K mg m ow H (ds ++ es) (vs ++ ws)
  | [], _, _, _, h, k => by
    have e : _ = [] := h
    rw [e]; exact k
  | _ :: _, _, _, _, ⟨v, r, e, h1, h2⟩, k => ⟨v, r ++ _, by rw [e]; rfl, h1, DReps.append h2 k⟩
theorem DReps.take : ∀ {ds : List D} {vs : List V} (n : Nat), DReps K mg m ow H ds vs → DReps K mg m ow H (ds.take n) (vs.take n)
  | _, _, 0, _ => rfl
  | [], _, n + 1, h => by
    have e : _ = [] := h
    rw [e]; rfl
  | _ :: _, _, n + 1, ⟨v, r, e, h1, h2⟩ => by rw [e]; exact ⟨v, r.take n, rfl, h1, DReps.take n h2⟩
theorem DReps.drop : ∀ {ds : List D} {vs : List V} (n : Nat), DReps K mg m ow H ds vs → DReps K mg m ow H (ds.drop n) (vs.drop n)
  | _, _, 0, h => h
  | [], _, n + 1, h => by
    have e : _ = [] := h
    rw [e]; rfl
  | _ :: _, _, n + 1, ⟨v, r, e, h1, h2⟩ => by rw [e]; exact DReps.drop n h2
theorem DReps.set : ∀ {ds : List D} {vs : List V} {d : D} {v : V} (i : Nat), DReps K mg m ow H ds vs → DRep K mg m ow H d v → DReps K mg m ow H (ds.set i d) (vs.set i v)
  | [], _, _, _, _, h, _ => by
    have e : _ = [] := h
    rw [e]; rfl
  | _ :: _, _, _, _, 0, ⟨v, r, e, h1, h2⟩, k => by rw [e]; exact ⟨_, r, rfl, k, h2⟩
  | _ :: _, _, _, _, i + 1, ⟨v, r, e, h1, h2⟩, k => by rw [e]; exact ⟨v, _, rfl, h1, DReps.set i h2 k⟩

theorem ERep.length : ∀ {ρ : List (Option T)} {σ : L2.St} {l : List Addr}, ERep K mg m ow H ρ σ l → ρ.length = σ.length
  | [], _, _, ⟨e, _⟩ => by rw [e]; rfl
  | none :: _, _, _, ⟨_, _, e, h⟩ => by rw [e, List.length_cons, List.length_cons, ERep.length h]
  | some _ :: _, _, _, ⟨_, _, _, _, e, _, h, _⟩ => by rw [e, List.length_cons, List.length_cons, ERep.length h]
/-- the i-th slot apart -/
theorem ERep.split : ∀ {ρ : List (Option T)} {σ : L2.St} {l : List Addr} {i : Nat}, ERep K mg m ow H ρ σ l → i < ρ.length → ∃ pre li post, l = pre ++ (li ++ post) ∧
    (∀ t, ρ[i]? = some (some t) → ∃ v, σ[i]? = some (some v) ∧ TRep K mg m ow H t v li) ∧
    (ρ[i]? = some none → li = []) ∧
    (∀ {m' : List Addr} {ow' : Addr → Prop} {H' : Hp} (t : T) (v : V) (l' : List Addr), Mo m m' ow ow' (pre ++ post) H H' → TRep K mg m' ow' H' t v l' → ERep K mg m' ow' H' (ρ.set i (some t)) (σ.set i (some v)) (pre ++ (l' ++ post))) ∧
    (∀ {m' : List Addr} {ow' : Addr → Prop} {H' : Hp} (x : Option V), Mo m m' ow ow' (pre ++ post) H H' → ERep K mg m' ow' H' (ρ.set i none) (σ.set i x) (pre ++ post))
  | [], _, _, _, _, h => absurd h (by simp)
  | none :: ρ, _, _, 0, ⟨y, r, e, h⟩, _ => by
    subst e
    refine ⟨[], [], _, rfl, fun t q => by simp at q, fun _ => rfl, fun t v l' x ht => ⟨v, r, l', _, rfl, ht, h.mono x, rfl⟩, fun x z => ⟨x, r, rfl, h.mono z⟩⟩
  | some t0 :: ρ, _, _, 0, ⟨v0, r, l1, l2, e, h1, h2, el⟩, _ => by
    subst e
    refine ⟨[], l1, l2, el, fun t q => ?_, fun q => by simp at q, fun t v l' x ht => ⟨v, r, l', _, rfl, ht, h2.mono x, rfl⟩, fun x z => ⟨x, r, rfl, h2.mono z⟩⟩
    have q' : t0 = t := by simpa using q
    subst q'
    exact ⟨v0, rfl, h1⟩
  | none :: ρ, _, _, i + 1, ⟨y, r, e, h⟩, hi => by
    subst e
    obtain ⟨pre, li, post, el, g, g0, s, z⟩ := ERep.split (i := i) h (by simpa using hi)
    exact ⟨pre, li, post, el, fun t q => by simpa using g t (by simpa using q), fun q => g0 (by simpa using q), fun t v l' x ht => ⟨y, _, rfl, s t v l' x ht⟩, fun x k => ⟨y, _, rfl, z x k⟩⟩
  | some t0 :: ρ, _, _, i + 1, ⟨v0, r, l1, l2, e, h1, h2, el⟩, hi => by
    subst e
    obtain ⟨pre, li, post, el2, g, g0, s, z⟩ := ERep.split (i := i) h2 (by simpa using hi)
    subst el2
    refine ⟨l1 ++ pre, li, post, by rw [el, List.append_assoc], fun t q => by simpa using g t (by simpa using q), fun q => g0 (by simpa using q), fun t v l' x ht => ⟨v0, _, l1, pre ++ (l' ++ post), rfl, h1.mono (x.sub fun b hb => by simp [hb]), s t v l' (x.sub fun b hb => ?_) ht, by rw [List.append_assoc]⟩,
      fun x k => ⟨v0, _, l1, pre ++ post, rfl, h1.mono (k.sub fun b hb => by simp [hb]), z x (k.sub fun b hb => ?_), by rw [List.append_assoc]⟩⟩
    · simp only [List.mem_append] at hb ⊢
      rcases hb with hb | hb
      · exact .inl (.inr hb)
      · exact .inr hb
    · simp only [List.mem_append] at hb ⊢
      rcases hb with hb | hb
      · exact .inl (.inr hb)
      · exact .inr hb
theorem ERep.get {ρ : List (Option T)} {σ : L2.St} {l : List Addr} {i : Nat} {t : T} (h : ERep K mg m ow H ρ σ l) (e : ρ[i]? = some (some t)) : ∃ v li, σ[i]? = some (some v) ∧ TRep K mg m ow H t v li ∧ ∀ a ∈ li, a ∈ l := by
  obtain ⟨pre, li, post, el, g, _⟩ := h.split (List.getElem?_eq_some_iff.mp e).1
  obtain ⟨v, h1, h2⟩ := g t e
  exact ⟨v, li, h1, h2, fun a ha => by rw [el]; simp [ha]⟩

theorem mem_ins {pre li li' post : List Addr} {a : Addr} : a ∈ pre ++ (li' ++ post) ↔ a ∈ li' ∨ a ∈ pre ++ post := by
  simp only [List.mem_append]
  constructor
  · rintro (h | h | h)
    · exact .inr (.inl h)
    · exact .inl h
    · exact .inr (.inr h)
  · rintro (h | h | h)
    · exact .inr (.inl h)
    · exact .inl h
    · exact .inr (.inr h)
theorem nodup_ins {pre li' post l2 : List Addr} (h : (pre ++ post ++ l2).Nodup) (h' : li'.Nodup) (d : ∀ a ∈ li', a ∉ pre ++ post ++ l2) : (pre ++ (li' ++ post) ++ l2).Nodup := by
  have p : (li' ++ (pre ++ post ++ l2)).Perm (pre ++ (li' ++ post) ++ l2) := by
    have h1 : (li' ++ pre ++ (post ++ l2)).Perm (pre ++ li' ++ (post ++ l2)) := List.perm_append_comm.append_right _
    simpa [List.append_assoc] using h1
  refine p.nodup_iff.mp ?_
  exact List.nodup_append.mpr ⟨h', h, fun a ha b hb e => d a ha (e ▸ hb)⟩

/-- the slot i is given another thing: what the old one owned may have changed or be gone, what the new one owns is the old one's or new -/
theorem Rp.put {q : Q8} {σ : L2.St} {w : Wd} {i : Nat} (r : Rp K mg q σ H w) (hi : i < q.r.length) : ∃ li : List Addr,
    (∀ t, q.r[i]? = some (some t) → ∃ v, σ[i]? = some (some v) ∧ TRep K mg w.m w.ow H t v li) ∧ (∀ a ∈ li, a ∈ w.fp) ∧ li.Nodup ∧
    ∀ li' : List Addr, (∀ a ∈ li', a ∈ li ∨ H a = none) → li'.Nodup → ∃ w' : Wd, w'.m = w.m ∧ w'.oo = w.oo ∧ w'.ro = w.ro ∧ (∀ a, a ∈ w'.fp → a ∈ w.fp ∨ a ∈ li') ∧ (∀ a, a ∈ li' → a ∈ w'.fp) ∧ (∀ a, a ∈ w'.fp → a ∈ li' ∨ a ∉ li) ∧
      ∀ (H' : Hp) (t : T) (v : V), (∀ a o, H a = some o → a ∉ li → H' a = some o) → (∀ a ∈ li', H' a ≠ none) → TRep K mg w.m w'.ow H' t v li' →
        Rp K mg { q with r := q.r.set i (some t) } (σ.set i (some v)) H' w' ∧ Fr false H w H' w' := by
  obtain ⟨l1, l2, h1, h2, nd, hw⟩ := r.ex
  obtain ⟨pre, li, post, el, g, g0, s, z⟩ := h1.split hi
  subst el
  have ap : ∀ a ∈ li, a ∉ pre ++ post ++ l2 := fun a ha hb => by
    have nd' := nd
    simp only [List.append_assoc, List.nodup_append, List.mem_append] at nd'
    simp only [List.mem_append] at hb
    obtain ⟨_, ⟨_, ⟨_, _, _⟩, q2⟩, q1⟩ := nd'
    rcases hb with (hb | hb) | hb
    · exact q1 a hb a (.inl ha) rfl
    · exact q2 a ha a (.inl hb) rfl
    · exact q2 a ha a (.inr hb) rfl
  have nli : li.Nodup := by
    have nd' := nd
    simp only [List.append_assoc, List.nodup_append] at nd'
    exact nd'.2.1.1
  have nrest : (pre ++ post ++ l2).Nodup := by
    refine List.Nodup.sublist ?_ nd
    simp only [List.append_assoc]
    exact List.Sublist.append_left (List.sublist_append_right li _) pre
  have fpin : ∀ a, a ∈ pre ++ (li ++ post) → a ∈ w.fp := fun a ha => by
    rcases hw with ⟨_, e⟩ | ⟨_, e, _⟩
    · rw [e]; exact List.mem_append_left _ ha
    · rw [e]; exact ha
  have fpow : ∀ a, a ∈ pre ++ post ++ l2 → w.ow a := fun a ha => by
    rw [List.mem_append] at ha
    rcases ha with ha | ha
    · exact .inl (fpin a (by rw [mem_ins (li := li)]; exact .inr ha))
    · rcases hw with ⟨_, e⟩ | ⟨_, _, e⟩
      · exact .inl (by rw [e]; exact List.mem_append_right _ ha)
      · exact .inr (r.ro a (e a ha))
  refine ⟨li, g, fun a ha => fpin a (by rw [mem_ins (li := li)]; exact .inl ha), nli, fun li' hl nd' => ?_⟩
  have ap' : ∀ a ∈ li', a ∉ pre ++ post ++ l2 := fun a ha hb => by
    rcases hl a ha with z | z
    · exact ap a z hb
    · exact r.there a (fpow a hb) z
  have key : ∀ fp' : List Addr, (∀ a, a ∈ fp' ↔ (a ∈ li' ∨ (a ∈ w.fp ∧ a ∈ pre ++ post ++ l2))) → ((q.w = true ∧ fp' = pre ++ (li' ++ post) ++ l2) ∨ (q.w = false ∧ fp' = pre ++ (li' ++ post) ∧ ∀ a ∈ l2, w.ro a)) →
      ∃ w' : Wd, w'.m = w.m ∧ w'.oo = w.oo ∧ w'.ro = w.ro ∧ (∀ a, a ∈ w'.fp → a ∈ w.fp ∨ a ∈ li') ∧ (∀ a, a ∈ li' → a ∈ w'.fp) ∧ (∀ a, a ∈ w'.fp → a ∈ li' ∨ a ∉ li) ∧
      ∀ (H' : Hp) (t : T) (v : V), (∀ a o, H a = some o → a ∉ li → H' a = some o) → (∀ a ∈ li', H' a ≠ none) → TRep K mg w.m w'.ow H' t v li' →
        Rp K mg { q with r := q.r.set i (some t) } (σ.set i (some v)) H' w' ∧ Fr false H w H' w' := by
    intro fp' hfp hc
    refine ⟨⟨w.m, fp', w.oo, w.ro⟩, rfl, rfl, rfl, fun a ha => ?_, fun a ha => (hfp a).mpr (.inl ha), fun a ha => ?_, fun H' t v hk hn ht => ?_⟩
    · rcases (hfp a).mp ha with h | h
      · exact .inr h
      · exact .inl h.1
    · rcases (hfp a).mp ha with h | h
      · exact .inl h
      · exact .inr fun x => ap a x h.2
    · have ooH : ∀ a, w.oo a → a ∉ li := fun a ha hb => r.apart a (fpin a (by rw [mem_ins (li := li)]; exact .inl hb)) ha
      have mo : ∀ l, (∀ a ∈ l, a ∈ pre ++ post ++ l2) → Mo w.m w.m w.ow (Wd.ow ⟨w.m, fp', w.oo, w.ro⟩) l H H' := fun l hl' => ⟨List.prefix_refl _, fun a o e z => hk a o e fun hb => by
          rcases z with z | z
          · exact z (.inl (fpin a (by rw [mem_ins (li := li)]; exact .inl hb)))
          · exact ap a hb (hl' a z), fun a e n x => by
          rcases x with x | x
          · rcases (hfp a).mp x with h | h
            · rcases hl a h with z | z
              · exact n (.inl (fpin a (by rw [mem_ins (li := li)]; exact .inl z)))
              · exact e z
            · exact n (.inl h.1)
          · exact n (.inr x)⟩
      refine ⟨⟨⟨pre ++ (li' ++ post), l2, s t v li' (mo _ fun a ha => List.mem_append_left _ ha) ht, h2.mono (mo _ fun a ha => List.mem_append_right _ ha), nodup_ins nrest nd' ap', hc⟩, r.ro, fun a ha ho => ?_, fun a ha => ?_⟩, ⟨fun a o e n => hk a o e fun hb => n (fpin a (by rw [mem_ins (li := li)]; exact .inl hb)), fun a e n x => ?_, rfl, rfl, List.prefix_refl _, fun h => nomatch h⟩⟩
      · rcases (hfp a).mp ha with h | h
        · rcases hl a h with z | z
          · exact ooH a ho z
          · exact r.there a (.inr ho) z
        · exact r.apart a h.1 ho
      · rcases ha with ha | ha
        · rcases (hfp a).mp ha with h | h
          · exact hn a h
          · cases e : H a with
            | none => exact absurd e (r.there a (.inl h.1))
            | some o => rw [hk a o e fun hb => ap a hb h.2]; simp
        · cases e : H a with
          | none => exact absurd e (r.there a (.inr ha))
          | some o => rw [hk a o e (ooH a ha)]; simp
      · rcases (hfp a).mp x with h | h
        · rcases hl a h with z | z
          · exact n (fpin a (by rw [mem_ins (li := li)]; exact .inl z))
          · exact e z
        · exact n h.1
  rcases hw with ⟨hq, e⟩ | ⟨hq, e, ho⟩
  · refine key (pre ++ (li' ++ post) ++ l2) (fun a => ?_) (.inl ⟨hq, rfl⟩)
    rw [e]
    simp only [List.mem_append]
    constructor
    · rintro ((h | h | h) | h) <;> simp [h]
    · rintro (h | ⟨h1, (h | h) | h⟩) <;> simp [h]
  · refine key (pre ++ (li' ++ post)) (fun a => ?_) (.inr ⟨hq, rfl, ho⟩)
    rw [e]
    simp only [List.mem_append]
    constructor
    · rintro (h | h | h) <;> simp [h]
    · rintro (h | ⟨h1, (h | h) | h⟩)
      · simp [h]
      · simp [h]
      · simp [h]
      · exact absurd (r.ro a (ho a h)) (r.apart a (by rw [e]; simpa using h1))
/-- a slot is given data -/
theorem Rp.putD {q : Q8} {σ : L2.St} {w : Wd} {i : Nat} {d : D} {v : V} (r : Rp K mg q σ H w) (hi : i < q.r.length) (h : DRep K mg w.m w.ow H d v) :
    ∃ w', Rp K mg { q with r := q.r.set i (some (.d d)) } (σ.set i (some v)) H w' ∧ Fr false H w H w' := by
  obtain ⟨li, _, _, _, f⟩ := r.put hi
  obtain ⟨w', em, eo, _, hs, _, _, g⟩ := f [] (fun a ha => absurd ha (by simp)) List.nodup_nil
  refine ⟨w', g H (.d d) v (fun _ _ e _ => e) (fun a ha => absurd ha (by simp)) ⟨h.mono (l := []) ⟨List.prefix_refl _, fun _ _ e _ => e, fun a _ n x => ?_⟩, rfl⟩⟩
  rcases x with x | x
  · rcases hs a x with z | z
    · exact n (.inl z)
    · exact absurd z (by simp)
  · rw [eo] at x; exact n (.inr x)
theorem Rp.len {q : Q8} {σ : L2.St} {w : Wd} (r : Rp K mg q σ H w) : q.r.length = σ.length := by
  obtain ⟨l1, l2, h1, _⟩ := r.ex
  exact h1.length
theorem Rp.get {q : Q8} {σ : L2.St} {w : Wd} {i : Nat} {t : T} (r : Rp K mg q σ H w) (e : q.r[i]? = some (some t)) : ∃ v li, σ[i]? = some (some v) ∧ TRep K mg w.m w.ow H t v li ∧ ∀ a ∈ li, a ∈ w.fp := by
  obtain ⟨l1, l2, h1, _, _, hw⟩ := r.ex
  obtain ⟨v, li, e1, e2, e3⟩ := h1.get e
  refine ⟨v, li, e1, e2, fun a ha => ?_⟩
  rcases hw with ⟨_, e⟩ | ⟨_, e, _⟩
  · rw [e]; exact List.mem_append_left _ (e3 a ha)
  · rw [e]; exact e3 a ha
end
end Fy

set_option maxHeartbeats 1000000
namespace Fy
open PySem PySem.Spec L2

/-! ### the monad -/
section
variable {α β : Type}
def bnd (m : Q8 → Out α) (f : α → Q8 → Out β) : Q8 → Out β := fun q => match m q with
  | .ok a q' => f a q'
  | .exc e q' => .exc e q'
  | .no => .no
def mret (a : α) : Q8 → Out α := fun q => .ok a q
def mop (o : Option α) : Q8 → Out α := fun q => match o with
  | some a => .ok a q
  | none => .no
end

/-! ### what is read -/
/-- an exception -/
def XRep (K : PySem.W.Frag) (mg : Str → Option Value) (m : List Addr) (ow : Addr → Prop) (H : Hp) (e : Xn) (c : Value) (d : Option Addr) : Prop :=
  ∃ C, mg e.c = some (.ref C) ∧ c = .ref C ∧ ((e.fs = [] ∧ d = none) ∨ ∃ a vs, d = some a ∧ H a = some (.xd ((e.fs.map (·.1)).zip vs)) ∧ ¬ ow a ∧ DReps K mg m ow H (e.fs.map (·.2)) vs)
/-- data, or what is seen of an owned thing -/
def VRep (K : PySem.W.Frag) (mg : Str → Option Value) (m : List Addr) (ow : Addr → Prop) (H : Hp) : D → V → Prop
  | .lst xs, v => ∃ a vs, v = .ref a ∧ H a = some (.lst vs) ∧ DReps K mg m ow H xs vs
  | .dic t ks xs, v => ∃ a vs o, v = .ref a ∧ H a = some o ∧ DicO t ks vs o ∧ DReps K mg m ow H xs vs
  | d, v => DRep K mg m ow H d v
def VD (K : PySem.W.Frag) (mg : Str → Option Value) : Bool → Wd → Hp → D → V → Prop
  | false, w, H, d, v => DRep K mg w.m w.ow H d v
  | true, w, H, d, v => VRep K mg w.m w.ow H d v
abbrev Rl (α β : Type) := Wd → Hp → α → β → Prop
/-- what must hold from here on -/
def Ct (K : PySem.W.Frag) (mg : Str → Option Value) (W : WX) (p : Bool) {α β : Type} (rel : Rl α β) (m : Q8 → Out α) (q : Q8) (w : Wd) (σ : L2.St) (H : Hp) (Q : β → Hp → Prop) : Prop :=
  match m q with
  | .ok d q' => ∀ x H' w', Fr p H w H' w' → Rp K mg q' σ H' w' → rel w' H' d x → Q x H'
  | .exc e q' => ∀ c a H' w', Fr p H w H' w' → Rp K mg q' σ H' w' → XRep K mg w'.m w'.ow H' e c a → W c a σ H'
  | .no => False
def Rd (K : PySem.W.Frag) (mg : Str → Option Value) (W : WX) (p : Bool) {α β : Type} (rel : Rl α β) (m : Q8 → Out α) : L2.St → Hp → (β → Hp → Prop) → Prop :=
  fun σ H Q => ∃ q w, Rp K mg q σ H w ∧ Ct K mg W p rel m q w σ H Q
def relB : Rl Bool Bool := fun _ _ a b => b = a
def relA (K : PySem.W.Frag) (mg : Str → Option Value) : Rl (List D) (List V) := fun w H ds vs => DReps K mg w.m w.ow H ds vs
/-- e is read as m -/
abbrev PX (X : Cx) (W : WX) (v p : Bool) (e : Expr) (m : M8) : Prop := PE X e (Rd X.K X.mg W p (VD X.K X.mg v) m)
abbrev PXt (X : Cx) (W : WX) (p : Bool) (e : Expr) (m : Q8 → Out Bool) : Prop := PT X e (Rd X.K X.mg W p relB m)
abbrev PXa (X : Cx) (W : WX) (p : Bool) (es : List Expr) (m : Q8 → Out (List D)) : Prop := PA X es (Rd X.K X.mg W p (relA X.K X.mg) m)

theorem peW {X : Cx} {e : Expr} {t t' : TE} (h : PE X e t) (k : ∀ σ H Q, t' σ H Q → t σ H Q) : PE X e t' := ⟨fun pins s σ H Q I hq => h.run pins s σ H Q I (k _ _ _ hq)⟩
theorem ptW {X : Cx} {e : Expr} {t t' : TT} (h : PT X e t) (k : ∀ σ H Q, t' σ H Q → t σ H Q) : PT X e t' := ⟨fun pins s σ H Q I hq => h.run pins s σ H Q I (k _ _ _ hq)⟩
theorem paW {X : Cx} {es : List Expr} {t t' : TA} (h : PA X es t) (k : ∀ σ H Q, t' σ H Q → t σ H Q) : PA X es t' := ⟨fun pos pins s σ H Q I hq => h.run pos pins s σ H Q I (k _ _ _ hq)⟩

section
variable {K : PySem.W.Frag} {mg : Str → Option Value} {W : WX} {p p1 p2 : Bool} {α β γ δ : Type} {rel : Rl α β} {rel1 : Rl γ δ} {q : Q8} {w : Wd} {σ : L2.St} {H : Hp}
theorem Ct.bnd {m : Q8 → Out γ} {f : γ → Q8 → Out α} {Q : β → Hp → Prop} {Q' : δ → Hp → Prop} (h : Ct K mg W (p1 && p2) rel (Fy.bnd m f) q w σ H Q)
    (k : ∀ d q1 x H1 w1, m q = .ok d q1 → Fr p1 H w H1 w1 → Rp K mg q1 σ H1 w1 → rel1 w1 H1 d x → Ct K mg W p2 rel (f d) q1 w1 σ H1 Q → Q' x H1) : Ct K mg W p1 rel1 m q w σ H Q' := by
  unfold Ct Fy.bnd at h
  unfold Ct
  cases e : m q with
  | no => rw [e] at h; exact h
  | exc x q' =>
    rw [e] at h
    intro c a H' w' F R X
    exact h c a H' w' ⟨F.keep, F.out, F.oo, F.ro, F.m, fun z => F.pure (by simp only [Bool.and_eq_true] at z; exact z.1)⟩ R X
  | ok d q1 =>
    rw [e] at h
    intro x H1 w1 F R r
    refine k d q1 x H1 w1 e F R r ?_
    unfold Ct
    simp only at h
    cases e2 : f d q1 with
    | no => rw [e2] at h; exact h
    | exc x q' =>
      rw [e2] at h
      intro c a H' w' F2 R2 X
      exact h c a H' w' (F.trans F2) R2 X
    | ok d2 q2 =>
      rw [e2] at h
      intro x2 H2 w2 F2 R2 r2
      exact h x2 H2 w2 (F.trans F2) R2 r2
theorem Ct.ret {a : α} {Q : β → Hp → Prop} (h : Ct K mg W p rel (mret a) q w σ H Q) : ∀ x H' w', Fr p H w H' w' → Rp K mg q σ H' w' → rel w' H' a x → Q x H' := h
/-- the end: what is new extends the heap -/
theorem Ct.fin {a : α} {Q : β → Hp → Prop} (h : Ct K mg W p rel (mret a) q w σ H Q) (R : Rp K mg q σ H w) : ∀ x H', (∀ b o, H b = some o → H' b = some o) → rel w H' a x → Q x H' :=
  fun x H' k r => h x H' w (Fr.ext k) (R.ext k) r
theorem Ct.op {o : Option α} {Q : β → Hp → Prop} (h : Ct K mg W p rel (mop o) q w σ H Q) : ∃ a, o = some a ∧ Ct K mg W p rel (mret a) q w σ H Q := by
  unfold Ct mop at h
  cases o with
  | none => exact h.elim
  | some a => exact ⟨a, rfl, h⟩
theorem Rp.fresh {x : Addr} (R : Rp K mg q σ H w) (h : H x = none) : ¬ w.ow x := fun z => R.there x z h

/-! ### what data looks like -/
variable {m : List Addr} {ow : Addr → Prop}
theorem TupAt.sq {a : Addr} {vs : List V} (h : TupAt K ow H a vs) : SqT K H a vs := by
  rcases h with ⟨e, _⟩ | h
  · exact .inl (.inl e)
  · exact .inr h
theorem ScrAt.sq {a : Addr} {vs : List V} (h : ScrAt K ow H a vs) : SqL K H a vs := by
  rcases h with ⟨⟨o, e⟩, _⟩ | h
  · exact .inl (.inr ⟨o, e⟩)
  · exact .inr h
theorem DRep.view : ∀ {d : D} {v : V}, DRep K mg m ow H d v → VRep K mg m ow H d v
  | .non, _, h => h
  | .bl _, _, h => h
  | .int _, _, h => h
  | .str _, _, h => h
  | .tup _, _, h => h
  | .lst _, _, ⟨a, vs, e, h, _, r⟩ => ⟨a, vs, e, h, r⟩
  | .scr _, _, h => h
  | .dic _ _ _, _, ⟨a, vs, o, e, h, _, c, r⟩ => ⟨a, vs, o, e, h, c, r⟩
  | .loc _, _, h => h
  | .gl _, _, h => h
theorem VD.view {v : Bool} {d : D} {x : V} (h : VD K mg v w H d x) : VRep K mg w.m w.ow H d x := by
  cases v with
  | true => exact h
  | false => exact DRep.view h
theorem VRep.keep {H' : Hp} (k : ∀ b o, H b = some o → H' b = some o) : ∀ {d : D} {v : V}, VRep K mg m ow H d v → VRep K mg m ow H' d v
  | .non, _, h => h
  | .bl _, _, h => h
  | .int _, _, h => h
  | .str _, _, h => h
  | .tup _, _, h => DRep.mono (l := []) (mo_ext k) h
  | .lst _, _, ⟨a, vs, e, t, r⟩ => ⟨a, vs, e, k _ _ t, DReps.mono (l := []) (mo_ext k) r⟩
  | .scr _, _, h => DRep.mono (l := []) (mo_ext k) h
  | .dic _ _ _, _, ⟨a, vs, o, e, h, c, r⟩ => ⟨a, vs, o, e, k _ _ h, c, DReps.mono (l := []) (mo_ext k) r⟩
  | .loc _, _, h => h
  | .gl _, _, h => h
/-- what was read stays, while the rest is read -/
theorem VD.stay {v p : Bool} {d : D} {x : V} {H' : Hp} {w' : Wd} (hv : v = true → p = true) (F : Fr p H w H' w') (h : VD K mg v w H d x) : VD K mg v w' H' d x := by
  cases v with
  | false => exact DRep.mono F.mo h
  | true =>
    obtain ⟨e, k⟩ := F.pure (hv rfl)
    subst e
    exact VRep.keep k h
end

/-! ### constants, names -/
section
variable {X : Cx} {W : WX}
/-- a reading whose value does not lean on the state -/
theorem px_const {e : Expr} {d : D} {v : V} (h : PE X e (tC v)) (r : ∀ (w : Wd) (H : Hp), DRep X.K X.mg w.m w.ow H d v) : PX X W false true e (mret d) :=
  peW h fun σ H Q ⟨q, w, R, c⟩ => c.fin R v H (fun _ _ z => z) (r w H)
theorem px_int {i : Int} {j pos} : PX X W false true (.Constant (.int i) j pos) (mret (.int i)) := px_const pe_int fun _ _ => rfl
theorem px_bl {b : Bool} {j pos} : PX X W false true (.Constant (.bool b) j pos) (mret (.bl b)) := px_const pe_bl fun _ _ => rfl
theorem px_non {j pos} : PX X W false true (.Constant .none j pos) (mret .non) := px_const pe_non fun _ _ => rfl
theorem px_str {x : Str} {j pos} : PX X W false true (.Constant (.str x) j pos) (mret (.str x)) := px_const pe_str fun _ _ => rfl
/-- a slot that holds data -/
def mvar (i : Nat) : M8 := fun q => match q.r[i]? with
  | some (some (.d x)) => .ok x q
  | _ => .no
theorem px_var (i : Nat) {x : Str} {pos : Pos} (hN : X.N[i]? = some x := by rfl) (hv : Vis X.env.scope x := by first | exact Or.inl rfl | exact Or.inr (Or.inl rfl) | exact Or.inr (Or.inr rfl)) (hd : (x == ("__debug__" : Str)) = false := by decide)
    (hcd : (x == ("__classdict__" : Str)) = false := by decide) : PX X W false true (.Name x pos) (mvar i) :=
  peW (pe_var hN hv hd hcd) fun σ H Q ⟨q, w, R, c⟩ => by
    unfold Ct mvar at c
    split at c
    · rename_i d q' e
      split at e
      · rename_i x' hx
        cases e
        obtain ⟨v, li, e1, ⟨h, _⟩, _⟩ := R.get hx
        exact ⟨v, e1, c v H w Fr.refl R h⟩
      · cases e
    · rename_i e
      split at e <;> cases e
    · exact c.elim
/-- what is seen of a thing, of a box -/
def seenT : T → Option D
  | .d x => some x
  | .fl xs => some (.lst xs)
  | .fd t ks xs => some (.dic t ks xs)
  | _ => none
def seen (S : List I8) : T → Option D
  | .d (.loc l) => match S[l]? with
    | some (.box t) => seenT t
    | _ => some (.loc l)
  | t => seenT t
/-- what is seen of a slot -/
def mvw (i : Nat) : M8 := fun q => match q.r[i]? with
  | some (some t) => mop (seen q.s t) q
  | _ => .no
theorem TRep.seen {K : PySem.W.Frag} {mg : Str → Option Value} {m : List Addr} {ow : Addr → Prop} {H : Hp} : ∀ {t : T} {v : V} {l : List Addr} {d : D}, TRep K mg m ow H t v l → seenT t = some d → VRep K mg m ow H d v
  | .d _, _, _, _, ⟨h, _⟩, e => by cases e; exact h.view
  | .fl _, _, _, _, ⟨a, vs, e1, h, r, _⟩, e => by cases e; exact ⟨a, vs, e1, h, r⟩
  | .fd _ _ _, _, _, _, ⟨a, vs, o, e1, h, c, r, _⟩, e => by cases e; exact ⟨a, vs, o, e1, h, c, r⟩
  | .nl _, _, _, _, _, e => by cases e
  | .tp _, _, _, _, _, e => by cases e
theorem SReps.get {K : PySem.W.Frag} {mg : Str → Option Value} {m : List Addr} {ow : Addr → Prop} {H : Hp} : ∀ {S : List I8} {as : List Addr} {l : List Addr} {i : Nat} {t : I8}, SReps K mg m ow H S as l → S[i]? = some t → ∃ a li, as[i]? = some a ∧ SRep1 K mg m ow H t a li ∧ ∀ b ∈ li, b ∈ l
  | [], _, _, _, _, _, e => by simp at e
  | s :: S, _, _, 0, t, ⟨a, r, l1, l2, e, h1, h2, el⟩, q => by
    have q' : s = t := by simpa using q
    subst q'; rw [e]; exact ⟨a, l1, rfl, h1, fun b hb => by rw [el]; exact List.mem_append_left _ hb⟩
  | _ :: _, _, _, i + 1, t, ⟨a, r, l1, l2, e, h1, h2, el⟩, q => by
    obtain ⟨b, li, e1, e2, e3⟩ := SReps.get (i := i) (t := t) h2 (by simpa using q)
    exact ⟨b, li, by rw [e]; simpa using e1, e2, fun c hc => by rw [el]; exact List.mem_append_right _ (e3 c hc)⟩
theorem Rp.sget {K : PySem.W.Frag} {mg : Str → Option Value} {q : Q8} {σ : L2.St} {H : Hp} {w : Wd} {l : Nat} {t : I8} (R : Rp K mg q σ H w) (e : q.s[l]? = some t) : ∃ a li, w.m[l]? = some a ∧ SRep1 K mg w.m w.ow H t a li := by
  obtain ⟨l1, l2, _, h, _⟩ := R.ex
  obtain ⟨a, li, h1, h2, _⟩ := h.get e
  exact ⟨a, li, h1, h2⟩
theorem Rp.seen {K : PySem.W.Frag} {mg : Str → Option Value} {q : Q8} {σ : L2.St} {H : Hp} {w : Wd} {t : T} {v : V} {l : List Addr} {d : D} (R : Rp K mg q σ H w) (h : TRep K mg w.m w.ow H t v l) (e : seen q.s t = some d) : VRep K mg w.m w.ow H d v := by
  unfold Fy.seen at e
  split at e
  · rename_i i
    obtain ⟨⟨a, hm, hv⟩, _⟩ := h
    split at e
    · rename_i t' ht
      obtain ⟨a', li, hm', ⟨h', _⟩⟩ := R.sget ht
      rw [hm] at hm'; cases hm'
      rw [hv]
      exact h'.seen e
    · cases e; exact ⟨a, hm, hv⟩
  · exact h.seen e
theorem px_vw (i : Nat) {x : Str} {pos : Pos} (hN : X.N[i]? = some x := by rfl) (hv : Vis X.env.scope x := by first | exact Or.inl rfl | exact Or.inr (Or.inl rfl) | exact Or.inr (Or.inr rfl)) (hd : (x == ("__debug__" : Str)) = false := by decide)
    (hcd : (x == ("__classdict__" : Str)) = false := by decide) : PX X W true true (.Name x pos) (mvw i) :=
  peW (pe_var hN hv hd hcd) fun σ H Q ⟨q, w, R, c⟩ => by
    unfold Ct mvw at c
    cases hx : q.r[i]? with
    | none => rw [hx] at c; exact c.elim
    | some o =>
      cases o with
      | none => rw [hx] at c; exact c.elim
      | some t =>
        rw [hx] at c
        simp only at c
        obtain ⟨v, li, e1, h, _⟩ := R.get hx
        cases hs : seen q.s t with
        | none => rw [hs] at c; exact c.elim
        | some d =>
          rw [hs] at c
          exact ⟨v, e1, c v H w Fr.refl R (R.seen h hs)⟩
theorem px_view {p : Bool} {e : Expr} {m : M8} (h : PX X W false p e m) : PX X W true p e m :=
  peW h fun σ H Q ⟨q, w, R, c⟩ => ⟨q, w, R, by
    unfold Ct at c ⊢
    cases hm : m q with
    | no => rw [hm] at c; exact c
    | exc e q' => rw [hm] at c; exact c
    | ok d q' => rw [hm] at c; exact fun x H' w' F R' r => c x H' w' F R' (DRep.view r)⟩
end
end Fy

set_option maxHeartbeats 1000000
namespace Fy
open PySem PySem.Spec L2

/-! ### operations on data -/
mutual
def py : D → PyData
  | .non => .none
  | .bl b => .bool b
  | .int i => .int i
  | .str x => .str x
  | .tup xs => .tuple (pys xs)
  | .lst xs => .list (pys xs)
  | .scr _ => .dict []
  | .dic _ _ _ => .dict []
  | .loc _ => .dict []
  | .gl _ => .dict []
def pys : List D → List PyData
  | [] => []
  | x :: xs => py x :: pys xs
end
abbrev G2 := List I8 → D → D → Option D
def gAdd : G2
  | _, .int a, .int b => some (.int (a + b))
  | _, .str a, .str b => if a.length + b.length ≤ sizeLine then some (.str (a ++ b)) else none
  | _, .tup a, .tup b => if a.length + b.length ≤ sizeLine then some (.tup (a ++ b)) else none
  | _, .lst a, .lst b => if a.length + b.length ≤ sizeLine then some (.lst (a ++ b)) else none
  | _, _, _ => none
def gSub : G2
  | _, .int a, .int b => some (.int (a - b))
  | _, _, _ => none
def gMul : G2
  | _, .int a, .int b => if (-(2 ^ 64) < a ∧ a < 2 ^ 64) ∨ (-(2 ^ 64) < b ∧ b < 2 ^ 64) then some (.int (a * b)) else none
  | _, _, _ => none
def gFdiv : G2
  | _, .int a, .int b => if 0 < b ∧ b < 1073741824 then some (.int (a / b)) else none
  | _, _, _ => none
def gMod : G2
  | _, .int a, .int b => if 0 < b then some (.int (a % b)) else none
  | _, _, _ => none
def gPow : G2
  | _, .int a, .int b => if 0 ≤ b ∧ b ≤ 1000000 ∧ a.natAbs < 2 ^ 64 then some (.int (a ^ b.toNat)) else none
  | _, _, _ => none
def gLt : G2
  | _, .int a, .int b => some (.bl (decide (a < b)))
  | _, _, _ => none
def gLe : G2
  | _, .int a, .int b => some (.bl (decide (a ≤ b)))
  | _, _, _ => none
def gGt : G2
  | _, .int a, .int b => some (.bl (decide (b < a)))
  | _, _, _ => none
def gGe : G2
  | _, .int a, .int b => some (.bl (decide (b ≤ a)))
  | _, _, _ => none
def dEq : D → D → Option Bool
  | .int a, .int b => some (decide (a = b))
  | .str a, .str b => some (decide (a = b))
  | .bl a, .bl b => some (decide (a = b))
  | a, b => if SeqAt.shaped (py a) && SeqAt.shaped (py b) then some (PyData.eqv (py a) (py b)) else none
def gEq : G2 := fun _ a b => (dEq a b).map .bl
def gNe : G2 := fun _ a b => (dEq a b).map fun c => .bl (!c)
def gIs : G2
  | _, .non, .non => some (.bl true)
  | _, .bl a, .bl b => some (.bl (decide (a = b)))
  | _, _, .non => some (.bl false)
  | _, _, _ => none
def gIsNot : G2 := fun S a b => match gIs S a b with
  | some (.bl c) => some (.bl (!c))
  | _ => none
def flatD : D → Bool
  | .non => true
  | .bl _ => true
  | .int _ => true
  | .str _ => true
  | _ => false
def eqF : D → D → Bool
  | .non, .non => true
  | .bl a, .bl b => a == b
  | .bl a, .int b => (if a then 1 else 0) == b
  | .int a, .bl b => a == (if b then 1 else 0)
  | .int a, .int b => a == b
  | .str a, .str b => a == b
  | _, _ => false
def inF (x : D) (xs : List D) : Bool := xs.any fun y => eqF y x
def strIn (x y : Str) : Bool := !(Builtin.Str.occurrences y x 0 y.length 1).isEmpty
/-- the value at a key -/
def dlook {κ : Type} [DecidableEq κ] (f : D → Option κ) : List D → List D → κ → Option D
  | k :: ks, x :: xs, y => if f k = some y then some x else dlook f ks xs y
  | _, _, _ => none
/-- what a dict holds at y; none: no such kind of key -/
def dGet (t : Bool) (ks xs : List D) (y : D) : Option (Option D) := match t with
  | false => (keyK y).map (dlook keyK ks xs)
  | true => (keyT y).map (dlook keyT ks xs)
abbrev Tb := Str → List (Str × D)
def dIn (G : Tb) (a b : D) : Option Bool := match b with
  | .tup xs => if flatD a && xs.all flatD then some (inF a xs) else none
  | .lst xs => if flatD a && xs.all flatD then some (inF a xs) else none
  | .scr xs => if flatD a && xs.all flatD then some (inF a xs) else none
  | .str y => match a with
    | .str x => some (strIn x y)
    | _ => none
  | .dic false ks xs => (dGet false ks xs a).map Option.isSome
  | .gl x => match a with
    | .str y => if (G x).isEmpty then none else some ((G x).lookup y).isSome
    | _ => none
  | _ => none
def gIn (G : Tb) : G2 := fun _ a b => (dIn G a b).map .bl
def gNotIn (G : Tb) : G2 := fun _ a b => (dIn G a b).map fun c => .bl (!c)
def gIx (G : Tb) : G2
  | _, .tup xs, .int k => atI xs k
  | _, .lst xs, .int k => atI xs k
  | _, .scr xs, .int k => atI xs k
  | _, .str z, .int k => if z.length ≤ sizeLine then (atI z.cps.toList k).map fun c => .str ⟨#[c]⟩ else none
  | _, .dic false ks xs, y => (dGet false ks xs y).bind id
  | _, .gl x, .str y => (G x).lookup y
  | _, _, _ => none

/-- the tables of the text: what the global dicts hold -/
structure KT8 (K : PySem.W.Frag) (w : World) (mg : Str → Option Value) (x : Str) (l : List (Str × D)) : Prop where
  ex : ∃ d es n, mg x = some (.ref d) ∧ KDict K w d es n ∧ (∀ z, l.lookup z = none → PySem.W.nsIn K d z = some none) ∧
    ∀ z y, l.lookup z = some y → ∃ u v, PySem.W.nsIn K d z = some (some u) ∧ RelV v u ∧ ∀ m ow H, DRep K mg m ow H y v
def Tabs (K : PySem.W.Frag) (w : World) (mg : Str → Option Value) (G : Tb) : Prop := ∀ x, (∃ a, mg x = some (.ref a)) → G x ≠ [] → KT8 K w mg x (G x)

def OpS (X : Cx) (r : R2) (g : G2) : Prop := ∀ (q : Q8) (σ : L2.St) (H : Hp) (w : Wd) (d1 d2 : D) (x y : V) (d : D) (Q : VK), Rp X.K X.mg q σ H w → VRep X.K X.mg w.m w.ow H d1 x → VRep X.K X.mg w.m w.ow H d2 y → g q.s d1 d2 = some d →
  (∀ z H', (∀ b o, H b = some o → H' b = some o) → DRep X.K X.mg w.m w.ow H' d z → Q z H') → r x y H Q
def mbin (g : G2) (ma mb : M8) : M8 := bnd ma fun a => bnd mb fun b q => mop (g q.s a b) q

section
variable {X : Cx} {W : WX} {v1 v2 p1 p2 : Bool} {a b : Expr} {ma mb : M8} {g : G2} {r : R2} {pos : Pos}
theorem rd_op {σ : L2.St} {H : Hp} {Q : VK} (sem : OpS X r g) (hv : v1 = true → p2 = true) (h : Rd X.K X.mg W (p1 && p2) (VD X.K X.mg false) (mbin g ma mb) σ H Q) :
    tOp r (Rd X.K X.mg W p1 (VD X.K X.mg v1) ma) (Rd X.K X.mg W p2 (VD X.K X.mg v2) mb) σ H Q := by
  obtain ⟨q, w, R, c⟩ := h
  refine ⟨q, w, R, c.bnd fun d1 q1 x H1 w1 e1 F1 R1 r1 c1 => ⟨q1, w1, R1, ?_⟩⟩
  have c2 : Ct X.K X.mg W (p2 && true) (VD X.K X.mg false) (bnd mb fun b q => mop (g q.s d1 b) q) q1 w1 σ H1 Q := by rw [Bool.and_true]; exact c1
  refine c2.bnd fun d2 q2 y H2 w2 e2 F2 R2 r2 c3 => ?_
  obtain ⟨d, ed, c4⟩ := Ct.op (show Ct X.K X.mg W true (VD X.K X.mg false) (mop (g q2.s d1 d2)) q2 w2 σ H2 Q from c3)
  exact sem q2 σ H2 w2 d1 d2 x y d Q R2 (VD.stay hv F2 r1).view r2.view ed fun z H' k rz => c4.fin R2 z H' k rz
end

/-! ### the operators -/
section
variable {K : PySem.W.Frag} {mg : Str → Option Value} {m : List Addr} {ow : Addr → Prop} {H : Hp}
mutual
theorem dp_of : ∀ {d : D} {v : V}, DRep K mg m ow H d v → (py d).canLay0 = true → Dp K H v (py d)
  | .non, _, h, _ => by
    have e : _ = V.non := h
    rw [e]; exact .non
  | .bl b, _, h, _ => by
    have e : _ = V.bl b := h
    rw [e]; exact .bl b
  | .int i, _, h, _ => by
    have e : _ = V.int i := h
    rw [e]; exact .int i
  | .str x, _, h, _ => by
    have e : _ = V.str x := h
    rw [e]; exact .str x
  | .tup xs, _, ⟨a, vs, e, t, r⟩, c => by
    rw [e]; exact .tup t.sq (dps_of r (by simpa [py, PyData.canLay0] using c))
  | .lst xs, _, ⟨a, vs, e, t, _, r⟩, c => by
    rw [e]; exact .lst (.inl (.inl t)) (dps_of r (by simpa [py, PyData.canLay0] using c))
  | .scr _, _, _, c => by simp [py, PyData.canLay0] at c
  | .dic _ _ _, _, _, c => by simp [py, PyData.canLay0] at c
  | .loc _, _, _, c => by simp [py, PyData.canLay0] at c
  | .gl _, _, _, c => by simp [py, PyData.canLay0] at c
theorem dps_of : ∀ {ds : List D} {vs : List V}, DReps K mg m ow H ds vs → PyData.canLayAll0 (pys ds) = true → DpAll K H vs (pys ds)
  | [], _, h, _ => by
    have e : _ = [] := h
    rw [e]; exact .nil
  | x :: xs, _, ⟨v, r, e, h1, h2⟩, c => by
    simp only [pys, PyData.canLayAll0, Bool.and_eq_true] at c
    rw [e]; exact .cons (dp_of h1 c.1) (dps_of h2 c.2)
end
theorem vdp_of {d : D} {v : V} (h : VRep K mg m ow H d v) (c : (py d).canLay0 = true) : Dp K H v (py d) := by
  cases d with
  | lst xs =>
    obtain ⟨a, vs, e, t, r⟩ := h
    rw [e]; exact .lst (.inl (.inl t)) (dps_of r (by simpa [py, PyData.canLay0] using c))
  | scr _ => simp [py, PyData.canLay0] at c
  | dic t ks xs => simp [py, PyData.canLay0] at c
  | non => exact dp_of (K := K) (mg := mg) (m := m) (ow := ow) (d := .non) h c
  | bl b => exact dp_of (K := K) (mg := mg) (m := m) (ow := ow) (d := .bl b) h c
  | int i => exact dp_of (K := K) (mg := mg) (m := m) (ow := ow) (d := .int i) h c
  | str x => exact dp_of (K := K) (mg := mg) (m := m) (ow := ow) (d := .str x) h c
  | tup xs => exact dp_of (K := K) (mg := mg) (m := m) (ow := ow) (d := .tup xs) h c
  | loc l => simp [py, PyData.canLay0] at c
  | gl x => simp [py, PyData.canLay0] at c
theorem vtup {xs : List D} {v : V} (h : VRep K mg m ow H (.tup xs) v) : ∃ a vs, v = .ref a ∧ TupAt K ow H a vs ∧ DReps K mg m ow H xs vs := h
theorem vlst {xs : List D} {v : V} (h : VRep K mg m ow H (.lst xs) v) : ∃ a vs, v = .ref a ∧ H a = some (.lst vs) ∧ DReps K mg m ow H xs vs := h
theorem vint {i : Int} {v : V} (h : VRep K mg m ow H (.int i) v) : v = .int i := h
theorem vstr {i : Str} {v : V} (h : VRep K mg m ow H (.str i) v) : v = .str i := h
theorem vbl {i : Bool} {v : V} (h : VRep K mg m ow H (.bl i) v) : v = .bl i := h
theorem vnon {v : V} (h : VRep K mg m ow H .non v) : v = .non := h
theorem upd_keep {p : Addr} {o : HO} (hp : H p = none) : ∀ b u, H b = some u → upd H p o b = some u := fun b u e => by rw [upd_ne (ne_of_none e hp)]; exact e
/-- a new tuple -/
theorem new_tup {q : Q8} {σ : L2.St} {w : Wd} (R : Rp K mg q σ H w) {xs : List D} {vs : List V} {p : Addr} (hp : H p = none) (h : DReps K mg w.m w.ow H xs vs) : DRep K mg w.m w.ow (upd H p (.tup vs)) (.tup xs) (.ref p) :=
  ⟨p, vs, rfl, .inl ⟨upd_same, R.fresh hp⟩, DReps.mono (l := []) (mo_ext (upd_keep hp)) h⟩
theorem new_lst {q : Q8} {σ : L2.St} {w : Wd} (R : Rp K mg q σ H w) {xs : List D} {vs : List V} {p : Addr} (hp : H p = none) (h : DReps K mg w.m w.ow H xs vs) : DRep K mg w.m w.ow (upd H p (.lst vs)) (.lst xs) (.ref p) :=
  ⟨p, vs, rfl, upd_same, R.fresh hp, DReps.mono (l := []) (mo_ext (upd_keep hp)) h⟩
theorem flat_of : ∀ {d : D} {v : V}, DRep K mg m ow H d v → flatD d = true → flatV v = true
  | .non, _, h, _ => by
    have e : _ = V.non := h
    rw [e]; rfl
  | .bl b, _, h, _ => by
    have e : _ = V.bl b := h
    rw [e]; rfl
  | .int i, _, h, _ => by
    have e : _ = V.int i := h
    rw [e]; rfl
  | .str x, _, h, _ => by
    have e : _ = V.str x := h
    rw [e]; rfl
  | .tup _, _, _, c => nomatch c
  | .lst _, _, _, c => nomatch c
  | .scr _, _, _, c => nomatch c
  | .dic _ _ _, _, _, c => nomatch c
  | .loc _, _, _, c => nomatch c
  | .gl _, _, _, c => nomatch c
theorem eqF_of {d e : D} {v u : V} (h : DRep K mg m ow H d v) (h' : DRep K mg m ow H e u) (c : flatD d = true) (c' : flatD e = true) : eqV v u = eqF d e := by
  cases d <;> first | (exact absurd c Bool.false_ne_true) | skip
  all_goals
    cases e <;> first | (exact absurd c' Bool.false_ne_true) | skip
  all_goals
    simp only [DRep] at h h'
    subst h h'
    rfl
theorem in_of {x : D} {v : V} (h : DRep K mg m ow H x v) (c : flatD x = true) : ∀ {xs : List D} {vs : List V}, DReps K mg m ow H xs vs → xs.all flatD = true → vs.all flatV = true ∧ inV v vs = inF x xs
  | [], _, r, _ => by
    have e : _ = [] := r
    rw [e]; exact ⟨rfl, rfl⟩
  | y :: ys, _, ⟨u, s, e, h1, h2⟩, f => by
    rw [List.all_cons, Bool.and_eq_true] at f
    obtain ⟨i1, i2⟩ := in_of h c h2 f.2
    subst e
    refine ⟨by rw [List.all_cons, flat_of h1 f.1, i1]; rfl, ?_⟩
    unfold inV inF at i2 ⊢
    rw [List.any_cons, List.any_cons, i2, eqF_of h1 h f.1 c]
theorem flat_view {d : D} {v : V} (h : VRep K mg m ow H d v) (c : flatD d = true) : DRep K mg m ow H d v := by
  cases d <;> first | exact h | (exact absurd c Bool.false_ne_true)
theorem keyK_of : ∀ {d : D} {v : V} {k : Key}, DRep K mg m ow H d v → keyK d = some k → v = kV k
  | .int i, _, k, h, e => by
    have h' : _ = V.int i := h
    cases e
    rw [h']; rfl
  | .str x, _, k, h, e => by
    have h' : _ = V.str x := h
    cases e
    rw [h']; rfl
  | .non, _, _, _, e => nomatch e
  | .bl _, _, _, _, e => nomatch e
  | .tup _, _, _, _, e => nomatch e
  | .lst _, _, _, _, e => nomatch e
  | .scr _, _, _, _, e => nomatch e
  | .dic _ _ _, _, _, _, e => nomatch e
  | .loc _, _, _, _, e => nomatch e
  | .gl _, _, _, _, e => nomatch e
/-- the dict's value at a key -/
theorem look_of {k : Key} : ∀ {ks xs : List D} {kk : List Key} {vs : List V}, keysK ks = some kk → vs.length = kk.length → DReps K mg m ow H xs vs →
    (∀ d, dlook keyK ks xs k = some d → ∃ v, valV (kk.zip vs) k = some v ∧ DRep K mg m ow H d v) ∧ (dlook keyK ks xs k = none → valV (kk.zip vs) k = none)
  | [], xs, kk, vs, e, hl, r => by
    cases e
    exact ⟨fun d q => (by simp [dlook] at q), fun _ => rfl⟩
  | k0 :: ks, xs, kk, vs, e, hl, r => by
    unfold keysK at e
    cases e1 : keyK k0 with
    | none => rw [e1] at e; cases e
    | some k1 =>
      cases e2 : keysK ks with
      | none => rw [e1, e2] at e; cases e
      | some kr =>
        rw [e1, e2] at e
        simp only [Option.some.injEq] at e
        subst e
        cases xs with
        | nil =>
          have e : vs = [] := r
          rw [e] at hl
          simp at hl
        | cons x xr =>
          obtain ⟨v, vr, ev, h1, h2⟩ := r
          subst ev
          have ih := look_of (k := k) e2 (by simpa using hl) h2
          by_cases hk : k1 = k
          · subst hk
            refine ⟨fun d q => ?_, fun q => ?_⟩
            · simp only [dlook, e1, if_true] at q
              cases q
              exact ⟨v, by simp [valV], h1⟩
            · simp [dlook, e1] at q
          · have ne : ¬ (some k1 = some k) := fun z => hk (Option.some.inj z)
            have vz : valV ((k1 :: kr).zip (v :: vr)) k = valV (kr.zip vr) k := by simp [valV, hk]
            rw [vz]
            refine ⟨fun d q => ih.1 d ?_, fun q => ih.2 ?_⟩ <;> simpa only [dlook, e1, ne, if_false] using q
end

section
variable {X : Cx}
theorem s_add : OpS X (fun x y H Q => rI0 (fun i j => .int (i + j)) x y H Q ∨ (∃ i j, x = .str i ∧ y = .str j ∧ i.length + j.length ≤ sizeLine ∧ Q (.str (i ++ j)) H) ∨ rCatA X.K x y H Q ∨ rCat x y H Q) gAdd := by
  intro q σ H w d1 d2 x y d Q R h1 h2 e k
  cases d1 <;> cases d2 <;> first | (cases e; done) | skip
  · cases e
    exact .inl ⟨_, _, vint h1, vint h2, k _ H (fun _ _ z => z) rfl⟩
  · rename_i a b
    simp only [gAdd] at e
    split at e
    · cases e
      exact .inr (.inl ⟨_, _, vstr h1, vstr h2, by assumption, k _ H (fun _ _ z => z) rfl⟩)
    · cases e
  · rename_i xs ys
    simp only [gAdd] at e
    split at e
    · rename_i hz
      cases e
      obtain ⟨a, vs, e1, t1, r1⟩ := vtup h1
      obtain ⟨b, us, e2, t2, r2⟩ := vtup h2
      have l1 := r1.length
      have l2 := r2.length
      refine .inr (.inr (.inl ⟨a, b, vs, us, e1, e2, t1.sq, t2.sq, by omega, fun z => ?_, fun z z2 => ?_, fun _ _ p hp => ?_⟩))
      · subst z
        have z1 : xs = [] := List.eq_nil_of_length_eq_zero (by simpa using l1)
        subst z1
        exact k _ H (fun _ _ z => z) ⟨b, us, rfl, t2, r2⟩
      · subst z2
        have z1 : ys = [] := List.eq_nil_of_length_eq_zero (by simpa using l2)
        subst z1
        rw [List.append_nil] at k
        exact k _ H (fun _ _ z => z) ⟨a, vs, rfl, t1, r1⟩
      · exact k _ _ (upd_keep hp) (new_tup R hp (r1.append r2))
    · cases e
  · rename_i xs ys
    simp only [gAdd] at e
    split at e
    · rename_i hz
      cases e
      obtain ⟨a, vs, e1, t1, r1⟩ := vlst h1
      obtain ⟨b, us, e2, t2, r2⟩ := vlst h2
      have l1 := r1.length
      have l2 := r2.length
      exact .inr (.inr (.inr ⟨a, b, vs, us, e1, e2, t1, t2, by omega, fun p hp => k _ _ (upd_keep hp) (new_lst R hp (r1.append r2))⟩))
    · cases e
theorem s_sub : OpS X (rI0 fun i j => .int (i - j)) gSub := by
  intro q σ H w d1 d2 x y d Q R h1 h2 e k
  cases d1 <;> cases d2 <;> first | (cases e; done) | skip
  cases e
  exact ⟨_, _, vint h1, vint h2, k _ H (fun _ _ z => z) rfl⟩
theorem s_mul : OpS X (rI CMul fun i j => .int (i * j)) gMul := by
  intro q σ H w d1 d2 x y d Q R h1 h2 e k
  cases d1 <;> cases d2 <;> first | (cases e; done) | skip
  simp only [gMul] at e
  split at e
  · cases e
    exact ⟨_, _, vint h1, vint h2, by assumption, k _ H (fun _ _ z => z) rfl⟩
  · cases e
theorem s_fdiv : OpS X (rI CDiv fun i j => .int (i / j)) gFdiv := by
  intro q σ H w d1 d2 x y d Q R h1 h2 e k
  cases d1 <;> cases d2 <;> first | (cases e; done) | skip
  simp only [gFdiv] at e
  split at e
  · cases e
    exact ⟨_, _, vint h1, vint h2, by assumption, k _ H (fun _ _ z => z) rfl⟩
  · cases e
theorem s_mod : OpS X (rI (fun _ j => 0 < j) fun i j => .int (i % j)) gMod := by
  intro q σ H w d1 d2 x y d Q R h1 h2 e k
  cases d1 <;> cases d2 <;> first | (cases e; done) | skip
  simp only [gMod] at e
  split at e
  · cases e
    exact ⟨_, _, vint h1, vint h2, by assumption, k _ H (fun _ _ z => z) rfl⟩
  · cases e
theorem s_pow : OpS X (rI CPow fun i j => .int (i ^ j.toNat)) gPow := by
  intro q σ H w d1 d2 x y d Q R h1 h2 e k
  cases d1 <;> cases d2 <;> first | (cases e; done) | skip
  simp only [gPow] at e
  split at e
  · cases e
    exact ⟨_, _, vint h1, vint h2, by assumption, k _ H (fun _ _ z => z) rfl⟩
  · cases e
theorem s_lt : OpS X (rI0 fun i j => .bl (decide (i < j))) gLt := by
  intro q σ H w d1 d2 x y d Q R h1 h2 e k
  cases d1 <;> cases d2 <;> first | (cases e; done) | skip
  cases e
  exact ⟨_, _, vint h1, vint h2, k _ H (fun _ _ z => z) rfl⟩
theorem s_le : OpS X (rI0 fun i j => .bl (decide (i ≤ j))) gLe := by
  intro q σ H w d1 d2 x y d Q R h1 h2 e k
  cases d1 <;> cases d2 <;> first | (cases e; done) | skip
  cases e
  exact ⟨_, _, vint h1, vint h2, k _ H (fun _ _ z => z) rfl⟩
theorem s_gt : OpS X (rI0 fun i j => .bl (decide (j < i))) gGt := by
  intro q σ H w d1 d2 x y d Q R h1 h2 e k
  cases d1 <;> cases d2 <;> first | (cases e; done) | skip
  cases e
  exact ⟨_, _, vint h1, vint h2, k _ H (fun _ _ z => z) rfl⟩
theorem s_ge : OpS X (rI0 fun i j => .bl (decide (j ≤ i))) gGe := by
  intro q σ H w d1 d2 x y d Q R h1 h2 e k
  cases d1 <;> cases d2 <;> first | (cases e; done) | skip
  cases e
  exact ⟨_, _, vint h1, vint h2, k _ H (fun _ _ z => z) rfl⟩
theorem dEq_of {K : PySem.W.Frag} {mg : Str → Option Value} {m : List Addr} {ow : Addr → Prop} {H : Hp} {d1 d2 : D} {x y : V} {c : Bool} (h1 : VRep K mg m ow H d1 x) (h2 : VRep K mg m ow H d2 y) (e : dEq d1 d2 = some c) :
    (scal x y = true ∧ c = decide (x = y)) ∨ ∃ a b, Dp K H x a ∧ Dp K H y b ∧ SeqAt.shaped a = true ∧ SeqAt.shaped b = true ∧ c = PyData.eqv a b := by
  have fin : (if SeqAt.shaped (py d1) && SeqAt.shaped (py d2) then some (PyData.eqv (py d1) (py d2)) else none) = some c → (scal x y = true ∧ c = decide (x = y)) ∨ ∃ a b, Dp K H x a ∧ Dp K H y b ∧ SeqAt.shaped a = true ∧ SeqAt.shaped b = true ∧ c = PyData.eqv a b := fun q => by
    split at q
    · rename_i s
      rw [Bool.and_eq_true] at s
      cases q
      exact .inr ⟨_, _, vdp_of h1 (SeqAt.canLay_of_shaped s.1), vdp_of h2 (SeqAt.canLay_of_shaped s.2), s.1, s.2, rfl⟩
    · cases q
  cases d1 <;> cases d2 <;> first
    | exact fin e
    | (cases e; cases vbl h1; cases vbl h2; exact .inl ⟨rfl, by simp⟩)
    | (cases e; cases vint h1; cases vint h2; exact .inl ⟨rfl, by simp⟩)
    | (cases e; cases vstr h1; cases vstr h2; exact .inl ⟨rfl, by simp⟩)
theorem s_eq : OpS X (fun x y H Q => rEq x y H Q ∨ rEqD X.K x y H Q) gEq := by
  intro q σ H w d1 d2 x y d Q R h1 h2 e k
  obtain ⟨c, ec, rfl⟩ := Option.map_eq_some_iff.mp e
  rcases dEq_of h1 h2 ec with ⟨s, rfl⟩ | ⟨a, b, q1, q2, s1, s2, rfl⟩
  · exact .inl ⟨s, k _ H (fun _ _ z => z) rfl⟩
  · exact .inr ⟨a, b, q1, q2, s1, s2, k _ H (fun _ _ z => z) rfl⟩
theorem s_ne : OpS X (fun x y H Q => rNe x y H Q ∨ rNeD X.K x y H Q) gNe := by
  intro q σ H w d1 d2 x y d Q R h1 h2 e k
  obtain ⟨c, ec, rfl⟩ := Option.map_eq_some_iff.mp e
  rcases dEq_of h1 h2 ec with ⟨s, rfl⟩ | ⟨a, b, q1, q2, s1, s2, rfl⟩
  · exact .inl ⟨s, k _ H (fun _ _ z => z) rfl⟩
  · exact .inr ⟨a, b, q1, q2, s1, s2, k _ H (fun _ _ z => z) rfl⟩
end
end Fy

set_option maxHeartbeats 1000000
namespace Fy
open PySem PySem.Spec L2

theorem atI_len {α β : Type} {xs : List α} {ys : List β} {k : Int} {x : α} (h : xs.length = ys.length) (e : atI xs k = some x) : ∃ j : Nat, xs[j]? = some x ∧ ∀ y, ys[j]? = some y → atI ys k = some y := by
  unfold atI at e ⊢
  rw [← h]
  cases q : ixN xs.length k with
  | none => rw [q] at e; cases e
  | some j => rw [q] at e; exact ⟨j, e, fun y hy => hy⟩
section
variable {K : PySem.W.Frag} {mg : Str → Option Value} {m : List Addr} {ow : Addr → Prop} {H : Hp}
theorem atI_of {xs : List D} {vs : List V} {k : Int} {d : D} (r : DReps K mg m ow H xs vs) (e : atI xs k = some d) : ∃ v, atI vs k = some v ∧ DRep K mg m ow H d v := by
  obtain ⟨j, e1, e2⟩ := atI_len r.length e
  obtain ⟨v, e3, h⟩ := r.get e1
  exact ⟨v, e2 v e3, h⟩
theorem vscr {xs : List D} {v : V} (h : VRep K mg m ow H (.scr xs) v) : ∃ a vs, v = .ref a ∧ ScrAt K ow H a vs ∧ DReps K mg m ow H xs vs := h
theorem vdic {t : Bool} {ks xs : List D} {v : V} (h : VRep K mg m ow H (.dic t ks xs) v) : ∃ a vs o, v = .ref a ∧ H a = some o ∧ DicO t ks vs o ∧ DReps K mg m ow H xs vs := h
theorem vgl {x : Str} {v : V} (h : VRep K mg m ow H (.gl x) v) : ∃ a, mg x = some (.ref a) ∧ v = .ref a := h
theorem dget_of {ks xs : List D} {y : D} {o : Option D} {v : V} {a : Addr} {vs : List V} {ho : HO} (e : dGet false ks xs y = some o) (hy : VRep K mg m ow H y v) (ha : H a = some ho) (hd : DicO false ks vs ho) (r : DReps K mg m ow H xs vs) :
    ∃ ov, DGet H a v ov ∧ (∀ d, o = some d → ∃ u, ov = some u ∧ DRep K mg m ow H d u) ∧ (o = none → ov = none) := by
  obtain ⟨kk, e1, e2, rfl⟩ := hd
  obtain ⟨k, ek, rfl⟩ := Option.map_eq_some_iff.mp e
  have hv : v = kV k := by
    refine keyK_of (K := K) (mg := mg) (m := m) (ow := ow) (H := H) (d := y) ?_ ek
    cases y <;> first | exact hy | (cases ek; done)
  subst hv
  obtain ⟨l1, l2⟩ := look_of (k := k) e1 e2 r
  exact ⟨_, DGet.k ha, fun d q => l1 d q, fun q => l2 q⟩
end

section
variable {X : Cx}
def rDGet : R2 := fun x y H Q => ∃ a v, x = .ref a ∧ DGet H a y (some v) ∧ Q v H
theorem ix_dict (hu : X.A.units + 1 < cLine) : IxR X rDGet := by
  intro value slice pins s σ H x y v u Q I rx ry h hs
  obtain ⟨a, z, rfl, g, q⟩ := h
  obtain rfl : v = Value.ref a := rx
  exact PyProof.Rows.tail_any (dict_typeIs I g) PySem.F.slot_dict_getitem.lookup (d_getItem hu I g ry fun w' s3 I3 rw' => ⟨z, H, I3, rw', q⟩) hs
def rDIn (neg : Bool) : R2 := fun x y H Q => ∃ a o, y = .ref a ∧ DGet H a x o ∧ Q (.bl (if neg then !o.isSome else o.isSome)) H
theorem op_in_d (hu : X.A.units + 1 < cLine) : OpR X (compareOp .In) (rDIn false) := by
  intro pins s σ H x y v u Q I rx ry h
  obtain ⟨a, o, rfl, g, q⟩ := h
  obtain rfl : u = Value.ref a := ry
  exact d_in hu I g rx fun s3 I3 => ⟨.bl o.isSome, H, I3, rfl, q⟩
theorem op_notIn_d (hu : X.A.units + 1 < cLine) : OpR X (compareOp .NotIn) (rDIn true) := by
  intro pins s σ H x y v u Q I rx ry h
  obtain ⟨a, o, rfl, g, q⟩ := h
  obtain rfl : u = Value.ref a := ry
  exact d_notIn hu I g rx fun s3 I3 => ⟨.bl (!o.isSome), H, I3, rfl, q⟩
def rKIn (K : PySem.W.Frag) (w : World) (neg : Bool) : R2 := fun x y H Q => ∃ d es n, KDict K w d es n ∧ ∃ (z : Str) (r : Option Value), x = .str z ∧ y = .ref d ∧ PySem.W.nsIn K d z = some r ∧ Q (.bl (if neg then !r.isSome else r.isSome)) H
theorem op_in_k : OpR X (compareOp .In) (rKIn X.K X.w false) := by
  intro pins s σ H x y v u Q I rx ry h
  obtain ⟨d, es, n, D, h⟩ := h
  exact op_in_kd D pins s σ H x y v u Q I rx ry h
theorem op_notIn_k : OpR X (compareOp .NotIn) (rKIn X.K X.w true) := by
  intro pins s σ H x y v u Q I rx ry h
  obtain ⟨d, es, n, D, h⟩ := h
  exact op_notIn_kd D pins s σ H x y v u Q I rx ry h
def rInS (neg : Bool) : R2 := fun x y H Q => ∃ i j, x = .str i ∧ y = .str j ∧ Q (.bl (if neg then !strIn i j else strIn i j)) H
theorem op_in_s : OpR X (compareOp .In) (rInS false) := by
  intro pins s σ H x y v u Q I rx ry h
  exact op_in_str pins s σ H x y v u Q I rx ry h
theorem op_notIn_s : OpR X (compareOp .NotIn) (rInS true) := by
  intro pins s σ H x y v u Q I rx ry h
  exact op_notIn_str pins s σ H x y v u Q I rx ry h
def rInA (K : PySem.W.Frag) (w : World) (neg : Bool) : R2 := fun x y H Q => rIn K neg x y H Q ∨ rInS neg x y H Q ∨ rDIn neg x y H Q ∨ rKIn K w neg x y H Q
theorem op_in_a (hu : X.A.units + 1 < cLine) : OpR X (compareOp .In) (rInA X.K X.w false) := op_in_seq.or (op_in_s.or ((op_in_d hu).or op_in_k))
theorem op_notIn_a (hu : X.A.units + 1 < cLine) : OpR X (compareOp .NotIn) (rInA X.K X.w true) := op_notIn_seq.or (op_notIn_s.or ((op_notIn_d hu).or op_notIn_k))
theorem s_inA {G : Tb} (hG : Tabs X.K X.w X.mg G) (neg : Bool) : OpS X (rInA X.K X.w neg) (fun _ a b => (dIn G a b).map fun c => .bl (if neg then !c else c)) := by
  intro q σ H w d1 d2 x y d Q R h1 h2 e k
  obtain ⟨c, ec, rfl⟩ := Option.map_eq_some_iff.mp e
  unfold dIn at ec
  split at ec
  · rename_i xs
    split at ec
    · rename_i f
      rw [Bool.and_eq_true] at f
      cases ec
      obtain ⟨a, vs, rfl, t, r⟩ := vtup h2
      have h1' := flat_view h1 f.1
      obtain ⟨f1, f2⟩ := in_of h1' f.1 r f.2
      exact .inl ⟨a, vs, rfl, .inr t.sq, flat_of h1' f.1, f1, by rw [f2]; exact k _ H (fun _ _ z => z) rfl⟩
    · cases ec
  · rename_i xs
    split at ec
    · rename_i f
      rw [Bool.and_eq_true] at f
      cases ec
      obtain ⟨a, vs, rfl, t, r⟩ := vlst h2
      have h1' := flat_view h1 f.1
      obtain ⟨f1, f2⟩ := in_of h1' f.1 r f.2
      exact .inl ⟨a, vs, rfl, .inl (.inl (.inl t)), flat_of h1' f.1, f1, by rw [f2]; exact k _ H (fun _ _ z => z) rfl⟩
    · cases ec
  · rename_i xs
    split at ec
    · rename_i f
      rw [Bool.and_eq_true] at f
      cases ec
      obtain ⟨a, vs, rfl, t, r⟩ := vscr h2
      have h1' := flat_view h1 f.1
      obtain ⟨f1, f2⟩ := in_of h1' f.1 r f.2
      exact .inl ⟨a, vs, rfl, .inl t.sq, flat_of h1' f.1, f1, by rw [f2]; exact k _ H (fun _ _ z => z) rfl⟩
    · cases ec
  · split at ec
    · cases ec
      exact .inr (.inl ⟨_, _, vstr h1, vstr h2, k _ H (fun _ _ z => z) rfl⟩)
    · cases ec
  · obtain ⟨o, eo, rfl⟩ := Option.map_eq_some_iff.mp ec
    obtain ⟨a, vs, ho, rfl, t, hd, r⟩ := vdic h2
    obtain ⟨ov, g, g1, g2⟩ := dget_of eo h1 t hd r
    refine .inr (.inr (.inl ⟨a, ov, rfl, g, ?_⟩))
    have ei : ov.isSome = o.isSome := by
      cases o with
      | none => rw [g2 rfl]; rfl
      | some d =>
        obtain ⟨u, e, _⟩ := g1 d rfl
        rw [e]; rfl
    rw [ei]
    exact k _ H (fun _ _ z => z) rfl
  · rename_i x0
    split at ec
    · rename_i z0
      split at ec
      · cases ec
      · rename_i hz
        have hz : G x0 ≠ [] := fun z => hz (by rw [z]; rfl)
        cases ec
        obtain ⟨a, ha, rfl⟩ := vgl h2
        obtain ⟨d0, es, n, hd, KD, h0, hy⟩ := (hG x0 ⟨a, ha⟩ hz).ex
        rw [ha] at hd; cases hd
        refine .inr (.inr (.inr ⟨a, es, n, KD, z0, ?_⟩))
        cases hl : (G x0).lookup z0 with
        | none =>
          rw [hl] at k
          exact ⟨none, vstr h1, rfl, h0 z0 hl, k _ H (fun _ _ z => z) rfl⟩
        | some y0 =>
          rw [hl] at k
          obtain ⟨u, v, e1, _, _⟩ := hy z0 y0 hl
          exact ⟨some u, vstr h1, rfl, e1, k _ H (fun _ _ z => z) rfl⟩
    · cases ec
  · cases ec
end
section
variable {X : Cx}
def rIxA (K : PySem.W.Frag) (w : World) : R2 := fun x y H Q => rIx K x y H Q ∨ rDGet x y H Q ∨ rIxD K w x y H Q
theorem ix_a (hu : X.A.units + 1 < cLine) : IxR X (rIxA X.K X.w) := ix_seq.or ((ix_dict hu).or ix_kdict)
theorem s_ix {G : Tb} (hG : Tabs X.K X.w X.mg G) : OpS X (rIxA X.K X.w) (gIx G) := by
  intro q σ H w d1 d2 x y d Q R h1 h2 e k
  unfold gIx at e
  split at e
  · obtain ⟨a, vs, rfl, t, r⟩ := vtup h1
    obtain ⟨v, e1, h⟩ := atI_of r e
    exact .inl (.inr (.inl ⟨a, vs, _, v, rfl, vint h2, t.sq, e1, k v H (fun _ _ z => z) h⟩))
  · obtain ⟨a, vs, rfl, t, r⟩ := vlst h1
    obtain ⟨v, e1, h⟩ := atI_of r e
    exact .inl (.inl ⟨a, vs, _, v, rfl, vint h2, .inl (.inl t), e1, k v H (fun _ _ z => z) h⟩)
  · obtain ⟨a, vs, rfl, t, r⟩ := vscr h1
    obtain ⟨v, e1, h⟩ := atI_of r e
    exact .inl (.inl ⟨a, vs, _, v, rfl, vint h2, t.sq, e1, k v H (fun _ _ z => z) h⟩)
  · rename_i z0 k0
    split at e
    · rename_i hz
      obtain ⟨c, e1, rfl⟩ := Option.map_eq_some_iff.mp e
      exact .inl (.inr (.inr ⟨z0, k0, c, vstr h1, vint h2, hz, e1, k _ H (fun _ _ z => z) rfl⟩))
    · cases e
  · rename_i d2 _ _ _ ks xs
    cases ed : dGet false ks xs d2 with
    | none => rw [ed] at e; cases e
    | some o =>
      rw [ed] at e
      have e' : o = some d := e
      subst e'
      obtain ⟨a, vs, ho, rfl, t, hd, r⟩ := vdic h1
      obtain ⟨ov, g, g1, g2⟩ := dget_of ed h2 t hd r
      obtain ⟨u, rfl, h⟩ := g1 d rfl
      exact .inr (.inl ⟨a, u, rfl, g, k u H (fun _ _ z => z) h⟩)
  · rename_i x0 y0
    obtain ⟨a, ha, rfl⟩ := vgl h1
    have hz : G x0 ≠ [] := fun z => by rw [z] at e; cases e
    obtain ⟨d0, es, n, hd, KD, h0, hy⟩ := (hG x0 ⟨a, ha⟩ hz).ex
    rw [ha] at hd; cases hd
    obtain ⟨u, v, e1, r, dr⟩ := hy y0 d e
    exact .inr (.inr ⟨a, y0, v, rfl, vstr h2, ⟨es, n, u, KD.at_, KD.lit, e1, r⟩, k v H (fun _ _ z => z) (dr _ _ _)⟩)
  · cases e
theorem vnon_eq {K : PySem.W.Frag} {mg : Str → Option Value} {m : List Addr} {ow : Addr → Prop} {H : Hp} {d : D} (h : VRep K mg m ow H d .non) : d = .non := by
  cases d with
  | non => rfl
  | bl b => exact absurd (vbl h) (by simp)
  | int b => exact absurd (vint h) (by simp)
  | str b => exact absurd (vstr h) (by simp)
  | tup xs => obtain ⟨_, _, e, _⟩ := vtup h; cases e
  | lst xs => obtain ⟨_, _, e, _⟩ := vlst h; cases e
  | scr xs => obtain ⟨_, _, e, _⟩ := vscr h; cases e
  | dic t ks xs => obtain ⟨_, _, _, e, _⟩ := vdic h; cases e
  | gl x => obtain ⟨_, _, e⟩ := vgl h; cases e
  | loc l =>
    have h' : ∃ a, m[l]? = some a ∧ V.non = .ref a := h
    obtain ⟨_, _, e⟩ := h'; cases e
theorem s_is : OpS X (fun x y H Q => (y = .non ∧ Q (.bl (decide (x = .non))) H) ∨ (∃ a b, x = .bl a ∧ y = .bl b ∧ Q (.bl (decide (a = b))) H)) gIs := by
  intro q σ H w d1 d2 x y d Q R h1 h2 e k
  unfold gIs at e
  split at e
  · cases e
    exact .inl ⟨vnon h2, by rw [vnon h1]; exact k _ H (fun _ _ z => z) rfl⟩
  · cases e
    exact .inr ⟨_, _, vbl h1, vbl h2, k _ H (fun _ _ z => z) rfl⟩
  · rename_i d1 hn
    cases e
    have nx : x ≠ .non := fun z => hn (vnon_eq (z ▸ h1))
    exact .inl ⟨vnon h2, by rw [decide_eq_false nx]; exact k _ H (fun _ _ z => z) rfl⟩
  · cases e
theorem s_isnot : OpS X (fun x y H Q => (y = .non ∧ Q (.bl (!decide (x = .non))) H) ∨ (∃ a b, x = .bl a ∧ y = .bl b ∧ Q (.bl (!decide (a = b))) H)) gIsNot := by
  intro q σ H w d1 d2 x y d Q R h1 h2 e k
  unfold gIsNot at e
  split at e
  · rename_i c ec
    cases e
    refine (s_is q σ H w d1 d2 x y (.bl c) (fun z H' => Q (match z with | .bl c => .bl (!c) | v => v) H') R h1 h2 ec fun z H' kk h => ?_).imp (fun h => h) fun h => h
    cases (show z = .bl c from h)
    exact k (.bl (!c)) H' kk rfl
  · cases e
end

/-! ### the rules of the operators -/
section
variable {X : Cx} {W : WX} {v1 v2 p1 p2 : Bool} {a b : Expr} {ma mb : M8} {pos : Pos}
theorem px_bop {op : Operator} {r : R2} {g : G2} (ho : OpR X (binaryOp op) r) (sem : OpS X r g) (ha : PX X W v1 p1 a ma) (hb : PX X W v2 p2 b mb) (hv : v1 = true → p2 = true) : PX X W false (p1 && p2) (.BinOp a op b pos) (mbin g ma mb) :=
  peW (pe_op ho ha hb) fun _ _ _ h => rd_op sem hv h
theorem px_cop {op : CmpOp} {r : R2} {g : G2} (ho : OpR X (compareOp op) r) (sem : OpS X r g) (ha : PX X W v1 p1 a ma) (hb : PX X W v2 p2 b mb) (hm : behindInMarks op b = false) (hv : v1 = true → p2 = true) : PX X W false (p1 && p2) (.Compare a [op] [b] pos) (mbin g ma mb) :=
  peW (pe_cmpR ho ha hb hm) fun _ _ _ h => rd_op sem hv h
theorem px_add (ha : PX X W v1 p1 a ma) (hb : PX X W v2 p2 b mb) (hv : v1 = true → p2 = true := by decide) : PX X W false (p1 && p2) (.BinOp a .Add b pos) (mbin gAdd ma mb) := px_bop (op_add.or (op_add_str.or (op_catA.or op_cat))) s_add ha hb hv
theorem px_sub (ha : PX X W v1 p1 a ma) (hb : PX X W v2 p2 b mb) (hv : v1 = true → p2 = true := by decide) : PX X W false (p1 && p2) (.BinOp a .Sub b pos) (mbin gSub ma mb) := px_bop op_sub s_sub ha hb hv
theorem px_mul (ha : PX X W v1 p1 a ma) (hb : PX X W v2 p2 b mb) (hv : v1 = true → p2 = true := by decide) : PX X W false (p1 && p2) (.BinOp a .Mult b pos) (mbin gMul ma mb) := px_bop op_mul s_mul ha hb hv
theorem px_fdiv (ha : PX X W v1 p1 a ma) (hb : PX X W v2 p2 b mb) (hv : v1 = true → p2 = true := by decide) : PX X W false (p1 && p2) (.BinOp a .FloorDiv b pos) (mbin gFdiv ma mb) := px_bop op_fdiv s_fdiv ha hb hv
theorem px_mod (ha : PX X W v1 p1 a ma) (hb : PX X W v2 p2 b mb) (hv : v1 = true → p2 = true := by decide) : PX X W false (p1 && p2) (.BinOp a .Mod b pos) (mbin gMod ma mb) := px_bop op_mod s_mod ha hb hv
theorem px_pow (ha : PX X W v1 p1 a ma) (hb : PX X W v2 p2 b mb) (hv : v1 = true → p2 = true := by decide) : PX X W false (p1 && p2) (.BinOp a .Pow b pos) (mbin gPow ma mb) := px_bop op_pow s_pow ha hb hv
theorem px_lt (ha : PX X W v1 p1 a ma) (hb : PX X W v2 p2 b mb) (hv : v1 = true → p2 = true := by decide) : PX X W false (p1 && p2) (.Compare a [.Lt] [b] pos) (mbin gLt ma mb) := px_cop op_lt s_lt ha hb (nomark _) hv
theorem px_le (ha : PX X W v1 p1 a ma) (hb : PX X W v2 p2 b mb) (hv : v1 = true → p2 = true := by decide) : PX X W false (p1 && p2) (.Compare a [.LtE] [b] pos) (mbin gLe ma mb) := px_cop op_le s_le ha hb (nomark _) hv
theorem px_gt (ha : PX X W v1 p1 a ma) (hb : PX X W v2 p2 b mb) (hv : v1 = true → p2 = true := by decide) : PX X W false (p1 && p2) (.Compare a [.Gt] [b] pos) (mbin gGt ma mb) := px_cop op_gt s_gt ha hb (nomark _) hv
theorem px_ge (ha : PX X W v1 p1 a ma) (hb : PX X W v2 p2 b mb) (hv : v1 = true → p2 = true := by decide) : PX X W false (p1 && p2) (.Compare a [.GtE] [b] pos) (mbin gGe ma mb) := px_cop op_ge s_ge ha hb (nomark _) hv
theorem px_eq (hu : X.A.units + 64 < cLine) (ha : PX X W v1 p1 a ma) (hb : PX X W v2 p2 b mb) (hv : v1 = true → p2 = true := by decide) : PX X W false (p1 && p2) (.Compare a [.Eq] [b] pos) (mbin gEq ma mb) := px_cop (op_eq.or (op_eqD hu)) s_eq ha hb (nomark _) hv
theorem px_ne (hu : X.A.units + 64 < cLine) (ha : PX X W v1 p1 a ma) (hb : PX X W v2 p2 b mb) (hv : v1 = true → p2 = true := by decide) : PX X W false (p1 && p2) (.Compare a [.NotEq] [b] pos) (mbin gNe ma mb) := px_cop (op_ne.or (op_neD hu)) s_ne ha hb (nomark _) hv
theorem px_is (ha : PX X W v1 p1 a ma) (hb : PX X W v2 p2 b mb) (hv : v1 = true → p2 = true := by decide) : PX X W false (p1 && p2) (.Compare a [.Is] [b] pos) (mbin gIs ma mb) := px_cop (op_isN.or op_is_bl) s_is ha hb (nomark _) hv
theorem px_isnot (ha : PX X W v1 p1 a ma) (hb : PX X W v2 p2 b mb) (hv : v1 = true → p2 = true := by decide) : PX X W false (p1 && p2) (.Compare a [.IsNot] [b] pos) (mbin gIsNot ma mb) := px_cop (op_notN.or op_isnot_bl) s_isnot ha hb (nomark _) hv
theorem px_in {G : Tb} (hG : Tabs X.K X.w X.mg G) (hu : X.A.units + 64 < cLine) (ha : PX X W v1 p1 a ma) (hb : PX X W v2 p2 b mb) (hm : behindInMarks .In b = false := by rfl) (hv : v1 = true → p2 = true := by decide) : PX X W false (p1 && p2) (.Compare a [.In] [b] pos) (mbin (gIn G) ma mb) :=
  px_cop (op_in_a (by omega)) (s_inA hG false) ha hb hm hv
theorem px_notin {G : Tb} (hG : Tabs X.K X.w X.mg G) (hu : X.A.units + 64 < cLine) (ha : PX X W v1 p1 a ma) (hb : PX X W v2 p2 b mb) (hm : behindInMarks .NotIn b = false := by rfl) (hv : v1 = true → p2 = true := by decide) : PX X W false (p1 && p2) (.Compare a [.NotIn] [b] pos) (mbin (gNotIn G) ma mb) :=
  px_cop (op_notIn_a (by omega)) (s_inA hG true) ha hb hm hv
theorem px_ix {G : Tb} (hG : Tabs X.K X.w X.mg G) (hu : X.A.units + 64 < cLine) (ha : PX X W v1 p1 a ma) (hb : PX X W v2 p2 b mb) (hs : PlainIx b := by exact fun _ _ => rfl) (hv : v1 = true → p2 = true := by decide) : PX X W false (p1 && p2) (.Subscript a b pos) (mbin (gIx G) ma mb) :=
  peW (pe_ix (ix_a (by omega)) ha hb hs) fun _ _ _ h => rd_op (s_ix hG) hv h
end
end Fy

set_option maxHeartbeats 1000000
namespace Fy
open PySem PySem.Spec L2

/-! ### truth: and, or, not, if-else -/
def mtb (m : M8) : Q8 → Out Bool := bnd m fun d q => match d with
  | .bl b => .ok b q
  | _ => .no
def tand (a b : Q8 → Out Bool) : Q8 → Out Bool := bnd a fun c => if c = true then b else mret false
def tor (a b : Q8 → Out Bool) : Q8 → Out Bool := bnd a fun c => if c = true then mret true else b
def tnot (a : Q8 → Out Bool) : Q8 → Out Bool := bnd a fun c => mret (!c)
def vand (a b : M8) : M8 := bnd (mtb a) fun c => if c = true then b else mret (.bl false)
def vor (a b : M8) : M8 := bnd (mtb a) fun c => if c = true then mret (.bl true) else b
def vnot (a : M8) : M8 := bnd (mtb a) fun c => mret (.bl (!c))
def vif (t : Q8 → Out Bool) (a b : M8) : M8 := bnd t fun c => if c = true then a else b
section
variable {X : Cx} {W : WX} {v p p1 p2 : Bool} {e a b c : Expr} {rest : List Expr} {m ma mb : M8} {t ta tb : Q8 → Out Bool} {pos : Pos}
theorem Ct.loose {K : PySem.W.Frag} {mg : Str → Option Value} {α β : Type} {rel : Rl α β} {m : Q8 → Out α} {q : Q8} {w : Wd} {σ : L2.St} {H : Hp} {Q : β → Hp → Prop} (h : Ct K mg W false rel m q w σ H Q) : Ct K mg W p rel m q w σ H Q := by
  unfold Ct at h ⊢
  cases e : m q with
  | no => rw [e] at h; exact h
  | exc x q' => rw [e] at h; exact fun c a H' w' F R z => h c a H' w' F.loose R z
  | ok d q' => rw [e] at h; exact fun x H' w' F R r => h x H' w' F.loose R r
theorem px_loose (h : PX X W v p e m) : PX X W v false e m := peW h fun σ H Q ⟨q, w, R, c⟩ => ⟨q, w, R, c.loose⟩
theorem pt_loose (h : PXt X W p e t) : PXt X W false e t := ptW h fun σ H Q ⟨q, w, R, c⟩ => ⟨q, w, R, c.loose⟩
/-- a bool's reading -/
theorem rd_tb {σ : L2.St} {H : Hp} {Q : Bool → Hp → Prop} (h : Rd X.K X.mg W p relB (mtb m) σ H Q) : Rd X.K X.mg W p (VD X.K X.mg v) m σ H fun x H' => ∃ k, x = .bl k ∧ Q k H' := by
  obtain ⟨q, w, R, c⟩ := h
  refine ⟨q, w, R, ?_⟩
  have c' : Ct X.K X.mg W (p && true) relB (mtb m) q w σ H Q := by rw [Bool.and_true]; exact c
  refine c'.bnd fun d q1 x H1 w1 e1 F1 R1 r1 c1 => ?_
  cases d with
  | bl k =>
    cases vbl r1.view
    exact ⟨k, rfl, c1 k H1 w1 Fr.refl R1 rfl⟩
  | _ => exact c1.elim
theorem pt_val8 (h : PX X W v p e m) (he : ∀ whole, isTrue e X.env whole = (do let v ← whole; standAt e.pos; holding [v] (truthy v)) := by intro _; rfl) : PXt X W p e (mtb m) :=
  ptW (pt_val h he) fun _ _ _ h => rd_tb h
theorem pt_cop {op : CmpOp} {r : R2} {g : G2} {v1 v2 : Bool} (ho : OpR X (compareOp op) r) (sem : OpS X r g) (ha : PX X W v1 p1 a ma) (hb : PX X W v2 p2 b mb) (hm : behindInMarks op b = false) (hv : v1 = true → p2 = true) : PXt X W (p1 && p2) (.Compare a [op] [b] pos) (mtb (mbin g ma mb)) :=
  ptW (pt_cmpR ho ha hb hm) fun σ H Q h => by
    have h' := rd_tb (v := false) h
    exact rd_op sem hv h'
variable {v1 v2 : Bool}
theorem pt_lt8 (ha : PX X W v1 p1 a ma) (hb : PX X W v2 p2 b mb) (hv : v1 = true → p2 = true := by decide) : PXt X W (p1 && p2) (.Compare a [.Lt] [b] pos) (mtb (mbin gLt ma mb)) := pt_cop op_lt s_lt ha hb (nomark _) hv
theorem pt_le8 (ha : PX X W v1 p1 a ma) (hb : PX X W v2 p2 b mb) (hv : v1 = true → p2 = true := by decide) : PXt X W (p1 && p2) (.Compare a [.LtE] [b] pos) (mtb (mbin gLe ma mb)) := pt_cop op_le s_le ha hb (nomark _) hv
theorem pt_gt8 (ha : PX X W v1 p1 a ma) (hb : PX X W v2 p2 b mb) (hv : v1 = true → p2 = true := by decide) : PXt X W (p1 && p2) (.Compare a [.Gt] [b] pos) (mtb (mbin gGt ma mb)) := pt_cop op_gt s_gt ha hb (nomark _) hv
theorem pt_ge8 (ha : PX X W v1 p1 a ma) (hb : PX X W v2 p2 b mb) (hv : v1 = true → p2 = true := by decide) : PXt X W (p1 && p2) (.Compare a [.GtE] [b] pos) (mtb (mbin gGe ma mb)) := pt_cop op_ge s_ge ha hb (nomark _) hv
theorem pt_eq8 (hu : X.A.units + 64 < cLine) (ha : PX X W v1 p1 a ma) (hb : PX X W v2 p2 b mb) (hv : v1 = true → p2 = true := by decide) : PXt X W (p1 && p2) (.Compare a [.Eq] [b] pos) (mtb (mbin gEq ma mb)) := pt_cop (op_eq.or (op_eqD hu)) s_eq ha hb (nomark _) hv
theorem pt_ne8 (hu : X.A.units + 64 < cLine) (ha : PX X W v1 p1 a ma) (hb : PX X W v2 p2 b mb) (hv : v1 = true → p2 = true := by decide) : PXt X W (p1 && p2) (.Compare a [.NotEq] [b] pos) (mtb (mbin gNe ma mb)) := pt_cop (op_ne.or (op_neD hu)) s_ne ha hb (nomark _) hv
theorem pt_is8 (ha : PX X W v1 p1 a ma) (hb : PX X W v2 p2 b mb) (hv : v1 = true → p2 = true := by decide) : PXt X W (p1 && p2) (.Compare a [.Is] [b] pos) (mtb (mbin gIs ma mb)) := pt_cop (op_isN.or op_is_bl) s_is ha hb (nomark _) hv
theorem pt_isnot8 (ha : PX X W v1 p1 a ma) (hb : PX X W v2 p2 b mb) (hv : v1 = true → p2 = true := by decide) : PXt X W (p1 && p2) (.Compare a [.IsNot] [b] pos) (mtb (mbin gIsNot ma mb)) := pt_cop (op_notN.or op_isnot_bl) s_isnot ha hb (nomark _) hv
theorem pt_in8 {G : Tb} (hG : Tabs X.K X.w X.mg G) (hu : X.A.units + 64 < cLine) (ha : PX X W v1 p1 a ma) (hb : PX X W v2 p2 b mb) (hm : behindInMarks .In b = false := by rfl) (hv : v1 = true → p2 = true := by decide) : PXt X W (p1 && p2) (.Compare a [.In] [b] pos) (mtb (mbin (gIn G) ma mb)) :=
  pt_cop (op_in_a (by omega)) (s_inA hG false) ha hb hm hv
theorem pt_notin8 {G : Tb} (hG : Tabs X.K X.w X.mg G) (hu : X.A.units + 64 < cLine) (ha : PX X W v1 p1 a ma) (hb : PX X W v2 p2 b mb) (hm : behindInMarks .NotIn b = false := by rfl) (hv : v1 = true → p2 = true := by decide) : PXt X W (p1 && p2) (.Compare a [.NotIn] [b] pos) (mtb (mbin (gNotIn G) ma mb)) :=
  pt_cop (op_notIn_a (by omega)) (s_inA hG true) ha hb hm hv

abbrev PXw (X : Cx) (W : WX) (p : Bool) (e : Expr) (m : Q8 → Out Bool) : Prop := PW X e (Rd X.K X.mg W p relB m)
theorem pwW {X : Cx} {e : Expr} {t t' : TT} (h : PW X e t) (k : ∀ σ H Q, t' σ H Q → t σ H Q) : PW X e t' := ⟨fun wh pins s σ H Q I hq => h.run wh pins s σ H Q I (k _ _ _ hq)⟩
theorem xw_and1 (ha : PXt X W p a t) : PXw X W p (.BoolOp .And [a] pos) t := pw_and1 ha
theorem xw_or1 (ha : PXt X W p a t) : PXw X W p (.BoolOp .Or [a] pos) t := pw_or1 ha
theorem rd_tif {σ : L2.St} {H : Hp} {Q : Bool → Hp → Prop} {f : Bool → Q8 → Out Bool} {z : Bool → Hp → Prop} (h : Rd X.K X.mg W (p1 && p2) relB (bnd ta f) σ H Q)
    (k : ∀ c q1 w1 H1, Rp X.K X.mg q1 σ H1 w1 → Ct X.K X.mg W p2 relB (f c) q1 w1 σ H1 Q → z c H1) : Rd X.K X.mg W p1 relB ta σ H z := by
  obtain ⟨q, w, R, c⟩ := h
  refine ⟨q, w, R, c.bnd fun d q1 x H1 w1 e1 F1 R1 r1 c1 => ?_⟩
  cases (show x = d from r1)
  exact k d q1 w1 H1 R1 c1
theorem xw_and (ha : PXt X W p1 a ta) (hb : PXw X W p2 (.BoolOp .And (b :: rest) pos) tb) : PXw X W (p1 && p2) (.BoolOp .And (a :: b :: rest) pos) (tand ta tb) :=
  pwW (pw_and ha hb) fun σ H Q h => rd_tif h fun c q1 w1 H1 R1 c1 => by
    cases c with
    | true => exact ⟨q1, w1, R1, c1⟩
    | false => exact c1 false H1 w1 Fr.refl R1 rfl
theorem xw_or (ha : PXt X W p1 a ta) (hb : PXw X W p2 (.BoolOp .Or (b :: rest) pos) tb) : PXw X W (p1 && p2) (.BoolOp .Or (a :: b :: rest) pos) (tor ta tb) :=
  pwW (pw_or ha hb) fun σ H Q h => rd_tif h fun c q1 w1 H1 R1 c1 => by
    cases c with
    | false => exact ⟨q1, w1, R1, c1⟩
    | true => exact c1 true H1 w1 Fr.refl R1 rfl
theorem xt_w (h : PXw X W p e t) : PXt X W p e t := h.pt
theorem xt_not (ha : PXt X W p a t) : PXt X W p (.UnaryOp .Not a pos) (tnot t) :=
  ptW (pt_not ha) fun σ H Q h => by
    have h' : Rd X.K X.mg W (p && true) relB (tnot t) σ H Q := by rw [Bool.and_true]; exact h
    exact rd_tif (z := fun c H1 => Q (!c) H1) h' fun c q1 w1 H1 R1 c1 => c1 (!c) H1 w1 Fr.refl R1 rfl
/-- .. as values -/
theorem rd_vif {σ : L2.St} {H : Hp} {Q : VK} {f : Bool → M8} {z : V → Hp → Prop} (h : Rd X.K X.mg W (p1 && p2) (VD X.K X.mg v2) (bnd (mtb ma) f) σ H Q)
    (k : ∀ c q1 w1 H1, Rp X.K X.mg q1 σ H1 w1 → Ct X.K X.mg W p2 (VD X.K X.mg v2) (f c) q1 w1 σ H1 Q → z (.bl c) H1) : Rd X.K X.mg W p1 (VD X.K X.mg v1) ma σ H z := by
  obtain ⟨q, w, R, c⟩ := h
  have cc : Ct X.K X.mg W (p1 && p2) (VD X.K X.mg v2) (bnd ma fun d => match d with | .bl b => f b | _ => fun _ => .no) q w σ H Q := by
    unfold Ct bnd at c ⊢
    unfold mtb bnd at c
    cases e : ma q with
    | no => rw [e] at c; exact c
    | exc x q' => rw [e] at c; exact c
    | ok d q' =>
      rw [e] at c
      cases d <;> exact c
  refine ⟨q, w, R, cc.bnd fun d q1 x H1 w1 e1 F1 R1 r1 c1 => ?_⟩
  cases d with
  | bl b =>
    cases vbl r1.view
    exact k b q1 w1 H1 R1 c1
  | _ => exact c1.elim
theorem px_one {op : BoolOp} (ha : PX X W v p a ma) : PX X W v p (.BoolOp op [a] pos) ma := pe_one ha
theorem px_and (ha : PX X W v1 p1 a ma) (hb : PX X W v2 p2 (.BoolOp .And (b :: rest) pos) mb) : PX X W v2 (p1 && p2) (.BoolOp .And (a :: b :: rest) pos) (vand ma mb) :=
  peW (pe_and ha hb) fun σ H Q h => rd_vif h fun c q1 w1 H1 R1 c1 => ⟨c, rfl, by
    cases c with
    | true => exact ⟨q1, w1, R1, c1⟩
    | false =>
      refine c1 (.bl false) H1 w1 Fr.refl R1 ?_
      cases v2 <;> rfl⟩
theorem px_or (ha : PX X W v1 p1 a ma) (hb : PX X W v2 p2 (.BoolOp .Or (b :: rest) pos) mb) : PX X W v2 (p1 && p2) (.BoolOp .Or (a :: b :: rest) pos) (vor ma mb) :=
  peW (pe_or ha hb) fun σ H Q h => rd_vif h fun c q1 w1 H1 R1 c1 => ⟨c, rfl, by
    cases c with
    | false => exact ⟨q1, w1, R1, c1⟩
    | true =>
      refine c1 (.bl true) H1 w1 Fr.refl R1 ?_
      cases v2 <;> rfl⟩
theorem px_not (ha : PX X W v p a ma) : PX X W false p (.UnaryOp .Not a pos) (vnot ma) :=
  peW (pe_not ha) fun σ H Q h => by
    have h' : Rd X.K X.mg W (p && true) (VD X.K X.mg false) (vnot ma) σ H Q := by rw [Bool.and_true]; exact h
    exact rd_vif (z := fun x H1 => ∃ c, x = .bl c ∧ Q (.bl (!c)) H1) h' fun c q1 w1 H1 R1 c1 => ⟨c, rfl, c1 _ H1 w1 Fr.refl R1 rfl⟩
theorem px_if (hc : PXt X W p1 c t) (ha : PX X W v p2 a ma) (hb : PX X W v p2 b mb) : PX X W v (p1 && p2) (.IfExp c a b pos) (vif t ma mb) :=
  peW (pe_ifExp hc ha hb) fun σ H Q ⟨q, w, R, cc⟩ => ⟨q, w, R, cc.bnd fun d q1 x H1 w1 e1 F1 R1 r1 c1 => by
    cases (show x = d from r1)
    cases d with
    | true => exact ⟨q1, w1, R1, c1⟩
    | false => exact ⟨q1, w1, R1, c1⟩⟩

/-! ### chains of two comparisons -/
def mchain (g g' : G2) (ma mb mc : M8) : M8 := bnd ma fun a => bnd mb fun b q => match g q.s a b with
  | some (.bl true) => bnd mc (fun c q => mop (g' q.s b c) q) q
  | some (.bl false) => .ok (.bl false) q
  | _ => .no
theorem rd_chain {r r' : R2} {g g' : G2} {mc : M8} {v3 p3 : Bool} {σ : L2.St} {H : Hp} {Q : VK} (sem : OpS X r g) (sem' : OpS X r' g') (hv : v1 = true → p2 = true) (hv2 : v2 = true → p3 = true)
    (h : Rd X.K X.mg W (p1 && (p2 && p3)) (VD X.K X.mg false) (mchain g g' ma mb mc) σ H Q) :
    tChain r r' (Rd X.K X.mg W p1 (VD X.K X.mg v1) ma) (Rd X.K X.mg W p2 (VD X.K X.mg v2) mb) (Rd X.K X.mg W p3 (VD X.K X.mg v3) mc) σ H Q := by
  obtain ⟨q, w, R, c⟩ := h
  refine ⟨q, w, R, c.bnd fun d1 q1 x H1 w1 e1 F1 R1 r1 c1 => ⟨q1, w1, R1, c1.bnd fun d2 q2 y H2 w2 e2 F2 R2 r2 c2 => ?_⟩⟩
  unfold Ct at c2
  dsimp only at c2
  cases eg : g q2.s d1 d2 with
  | none => rw [eg] at c2; exact c2.elim
  | some k =>
    rw [eg] at c2
    refine sem q2 σ H2 w2 d1 d2 x y k _ R2 (VD.stay hv F2 r1).view r2.view eg fun z H' kk rz => ?_
    cases k with
    | bl k =>
      cases (show z = .bl k from rz)
      refine ⟨k, rfl, ?_⟩
      cases k with
      | false =>
        simp only [Bool.false_eq_true, if_false]
        exact c2 (.bl false) H' w2 (Fr.ext kk) (R2.ext kk) rfl
      | true =>
        simp only [if_true]
        have c3 : Ct X.K X.mg W p3 (VD X.K X.mg false) (bnd mc fun c q => mop (g' q.s d2 c) q) q2 w2 σ H' Q := by
          unfold Ct
          cases em : bnd mc (fun c q => mop (g' q.s d2 c) q) q2 with
          | no => simp only [em] at c2
          | exc x q' =>
            simp only [em] at c2
            exact fun c a H'' w' F => c2 c a H'' w' ((Fr.ext (p := true) kk).trans F)
          | ok d q' =>
            simp only [em] at c2
            exact fun x H'' w' F => c2 x H'' w' ((Fr.ext (p := true) kk).trans F)
        have c3' : Ct X.K X.mg W (p3 && true) (VD X.K X.mg false) (bnd mc fun c q => mop (g' q.s d2 c) q) q2 w2 σ H' Q := by rw [Bool.and_true]; exact c3
        refine ⟨q2, w2, R2.ext kk, c3'.bnd fun d3 q3 u H3 w3 e3 F3 R3 r3 c4 => ?_⟩
        obtain ⟨d, ed, c5⟩ := Ct.op (show Ct X.K X.mg W true (VD X.K X.mg false) (mop (g' q3.s d2 d3)) q3 w3 σ H3 Q from c4)
        exact sem' q3 σ H3 w3 d2 d3 y u d Q R3 (VD.stay hv2 F3 (VD.stay (w' := w2) (p := true) (fun _ => rfl) (Fr.ext kk) r2)).view r3.view ed fun z H' k rz => c5.fin R3 z H' k rz
    | _ => exact c2.elim
theorem px_chain {op op' : CmpOp} {r r' : R2} {g g' : G2} {v3 p3 : Bool} {mc : M8} (ho : OpR X (compareOp op) r) (sem : OpS X r g) (ho' : OpR X (compareOp op') r') (sem' : OpS X r' g') (ha : PX X W v1 p1 a ma) (hb : PX X W v2 p2 b mb) (hc : PX X W v3 p3 c mc)
    (hm : lastMarks [op, op'] [b, c] = false := by with_unfolding_all rfl) (hv : v1 = true → p2 = true := by decide) (hv2 : v2 = true → p3 = true := by decide) : PX X W false (p1 && (p2 && p3)) (.Compare a [op, op'] [b, c] pos) (mchain g g' ma mb mc) :=
  peW (pe_chain ho ho' ha hb hc hm) fun _ _ _ h => rd_chain sem sem' hv hv2 h
theorem pt_chain8 {op op' : CmpOp} {r r' : R2} {g g' : G2} {v3 p3 : Bool} {mc : M8} (ho : OpR X (compareOp op) r) (sem : OpS X r g) (ho' : OpR X (compareOp op') r') (sem' : OpS X r' g') (ha : PX X W v1 p1 a ma) (hb : PX X W v2 p2 b mb) (hc : PX X W v3 p3 c mc)
    (hm : lastMarks [op, op'] [b, c] = false := by with_unfolding_all rfl) (hv : v1 = true → p2 = true := by decide) (hv2 : v2 = true → p3 = true := by decide) : PXt X W (p1 && (p2 && p3)) (.Compare a [op, op'] [b, c] pos) (mtb (mchain g g' ma mb mc)) :=
  ptW (pt_chain ho ho' ha hb hc hm) fun _ _ _ h => rd_chain sem sem' hv hv2 (rd_tb (v := false) h)

/-! ### arguments, displays -/
def mnil : Q8 → Out (List D) := mret []
def mcons (m : M8) (ms : Q8 → Out (List D)) : Q8 → Out (List D) := bnd m fun d => bnd ms fun ds => mret (d :: ds)
def mtup (ms : Q8 → Out (List D)) : M8 := bnd ms fun ds q => mop (if ds.length ≤ sizeLine then some (.tup ds) else none) q
def mlst (ms : Q8 → Out (List D)) : M8 := bnd ms fun ds q => mop (if ds.length ≤ sizeLine then some (.lst ds) else none) q
variable {es : List Expr} {ms : Q8 → Out (List D)}
theorem xa_nil : PXa X W true [] mnil := paW pa_nil fun σ H Q ⟨q, w, R, c⟩ => c [] H w Fr.refl R rfl
theorem xa_cons (ha : PX X W false p1 e m) (hr : PXa X W p2 es ms) (hs : starEach (e :: es) X.env = (false, eval e X.env) :: starEach es X.env := by rfl) : PXa X W (p1 && p2) (e :: es) (mcons m ms) :=
  paW (pa_cons ha hr hs) fun σ H Q ⟨q, w, R, c⟩ => ⟨q, w, R, c.bnd fun d1 q1 x H1 w1 e1 F1 R1 r1 c1 => ⟨q1, w1, R1, by
    have c1' : Ct X.K X.mg W (p2 && true) (relA X.K X.mg) (bnd ms fun ds => mret (d1 :: ds)) q1 w1 σ H1 Q := by rw [Bool.and_true]; exact c1
    exact c1'.bnd fun ds q2 xs H2 w2 e2 F2 R2 r2 c2 => c2 (x :: xs) H2 w2 Fr.refl R2 ⟨x, xs, rfl, DRep.mono F2.mo r1, r2⟩⟩⟩
/-- the last argument may be seen only -/
theorem xa_view1 {v : Bool} (ha : PX X W v p1 e m) (hs : starEach [e] X.env = (false, eval e X.env) :: starEach [] X.env := by rfl) : PA X [e] (Rd X.K X.mg W p1 (fun w H d vs => ∃ x, vs = [x] ∧ VD X.K X.mg v w H d x) m) :=
  paW (pa_cons ha pa_nil hs) fun σ H Q ⟨q, w, R, c⟩ => ⟨q, w, R, by
    have c' : Ct X.K X.mg W (p1 && true) (fun w H d vs => ∃ x, vs = [x] ∧ VD X.K X.mg v w H d x) (bnd m mret) q w σ H Q := by
      rw [Bool.and_true]
      unfold Ct bnd at *
      cases e : m q <;> simp only [e] at c ⊢ <;> exact c
    exact c'.bnd fun d q1 x H1 w1 e1 F1 R1 r1 c1 => c1 [x] H1 w1 Fr.refl R1 ⟨x, rfl, r1⟩⟩
theorem ct_rt {K : PySem.W.Frag} {mg : Str → Option Value} {α β : Type} {rel : Rl α β} {m : Q8 → Out α} {q : Q8} {w : Wd} {σ : L2.St} {H : Hp} {Q : β → Hp → Prop} (c : Ct K mg W p rel m q w σ H Q) : Ct K mg W (p && true) rel m q w σ H Q := by rw [Bool.and_true]; exact c
theorem px_tup {k : Nat} (h : PXa X W p es ms) : PX X W false p (.Tuple es k pos) (mtup ms) :=
  peW (pe_tup h) fun σ H Q ⟨q, w, R, c⟩ => ⟨q, w, R, (ct_rt c).bnd fun ds q1 xs H1 w1 e1 F1 R1 r1 c1 => by
    obtain ⟨d, ed, c2⟩ := Ct.op (show Ct X.K X.mg W true (VD X.K X.mg false) (mop (if ds.length ≤ sizeLine then some (.tup ds) else none)) q1 w1 σ H1 Q from c1)
    split at ed
    · rename_i hz
      cases ed
      have l := DReps.length r1
      exact ⟨by omega, fun p hp => c2.fin R1 _ _ (upd_keep hp) (new_tup R1 hp r1)⟩
    · cases ed⟩
theorem px_lst (h : PXa X W p es ms) : PX X W false p (.List es pos) (mlst ms) :=
  peW (pe_lst h) fun σ H Q ⟨q, w, R, c⟩ => ⟨q, w, R, (ct_rt c).bnd fun ds q1 xs H1 w1 e1 F1 R1 r1 c1 => by
    obtain ⟨d, ed, c2⟩ := Ct.op (show Ct X.K X.mg W true (VD X.K X.mg false) (mop (if ds.length ≤ sizeLine then some (.lst ds) else none)) q1 w1 σ H1 Q from c1)
    split at ed
    · rename_i hz
      cases ed
      have l := DReps.length r1
      exact ⟨by omega, fun p hp => c2.fin R1 _ _ (upd_keep hp) (new_lst R1 hp r1)⟩
    · cases ed⟩
end
end Fy

set_option maxHeartbeats 1000000
namespace Fy
open PySem PySem.Spec L2

/-! ### built-in calls -/
abbrev G1 := List I8 → D → Option D
abbrev GL := List I8 → List D → Option D
abbrev RC := List V → Hp → VK → Prop
def CaS1 (X : Cx) (r : RC) (g : G1) : Prop := ∀ (q : Q8) (σ : L2.St) (H : Hp) (w : Wd) (d1 : D) (x : V) (d : D) (Q : VK), Rp X.K X.mg q σ H w → VRep X.K X.mg w.m w.ow H d1 x → g q.s d1 = some d →
  (∀ z H', (∀ b o, H b = some o → H' b = some o) → DRep X.K X.mg w.m w.ow H' d z → Q z H') → r [x] H Q
def CaS (X : Cx) (r : RC) (g : GL) : Prop := ∀ (q : Q8) (σ : L2.St) (H : Hp) (w : Wd) (ds : List D) (xs : List V) (d : D) (Q : VK), Rp X.K X.mg q σ H w → DReps X.K X.mg w.m w.ow H ds xs → g q.s ds = some d →
  (∀ z H', (∀ b o, H b = some o → H' b = some o) → DRep X.K X.mg w.m w.ow H' d z → Q z H') → r xs H Q
def m1 (g : G1) (m : M8) : M8 := bnd m fun a q => mop (g q.s a) q
def mN (g : GL) (ms : Q8 → Out (List D)) : M8 := bnd ms fun as q => mop (g q.s as) q
theorem CallR.or {X : Cx} {f : Value} {r r' : RC} (h : CallR X f r) (h' : CallR X f r') : CallR X f (fun xs H Q => r xs H Q ∨ r' xs H Q) := by
  intro pins s σ H xs us Q I rs q
  rcases q with q | q
  · exact h pins s σ H xs us Q I rs q
  · exact h' pins s σ H xs us Q I rs q
section
variable {X : Cx} {W : WX} {v p : Bool} {e : Expr} {es : List Expr} {m : M8} {ms : Q8 → Out (List D)} {pos ps : Pos} {x : Str} {id T : String} {r : RC} {g : G1} {gl : GL}
theorem rd_c1 {σ : L2.St} {H : Hp} {Q : VK} (sem : CaS1 X r g) (h : Rd X.K X.mg W p (VD X.K X.mg false) (m1 g m) σ H Q) :
    Rd X.K X.mg W p (fun w H d vs => ∃ x, vs = [x] ∧ VD X.K X.mg v w H d x) m σ H fun vs H1 => r vs H1 Q := by
  obtain ⟨q, w, R, c⟩ := h
  refine ⟨q, w, R, (ct_rt c).bnd fun d1 q1 xs H1 w1 e1 F1 R1 r1 c1 => ?_⟩
  obtain ⟨x, rfl, r1⟩ := r1
  obtain ⟨d, ed, c2⟩ := Ct.op (show Ct X.K X.mg W true (VD X.K X.mg false) (mop (g q1.s d1)) q1 w1 σ H1 Q from c1)
  exact sem q1 σ H1 w1 d1 x d Q R1 r1.view ed fun z H' k rz => c2.fin R1 z H' k rz
theorem rd_cN {σ : L2.St} {H : Hp} {Q : VK} (sem : CaS X r gl) (h : Rd X.K X.mg W p (VD X.K X.mg false) (mN gl ms) σ H Q) :
    Rd X.K X.mg W p (relA X.K X.mg) ms σ H fun vs H1 => r vs H1 Q := by
  obtain ⟨q, w, R, c⟩ := h
  refine ⟨q, w, R, (ct_rt c).bnd fun d1 q1 xs H1 w1 e1 F1 R1 r1 c1 => ?_⟩
  obtain ⟨d, ed, c2⟩ := Ct.op (show Ct X.K X.mg W true (VD X.K X.mg false) (mop (gl q1.s d1)) q1 w1 σ H1 Q from c1)
  exact sem q1 σ H1 w1 d1 xs d Q R1 r1 ed fun z H' k rz => c2.fin R1 z H' k rz
theorem px_cb1 (hc : CallR X (.builtin id) r) (sem : CaS1 X r g) (hv : bootBuiltins x = some (.builtin id)) (hm : X.mg x = none) (ha : PX X W v p e m) (hg : Gl X x := by rfl) (hn : x ≠ "__name__" := by decide) (hdb : (x == ("__debug__" : Str)) = false := by decide)
    (he : starEach [e] X.env = (false, eval e X.env) :: starEach [] X.env := by rfl) (hpl : (backTo pos (starEach [] X.env)).any (·.1) = false := by rfl) : PX X W false p (.Call (.Name x ps) [e] [] pos) (m1 g m) :=
  peW (pe_callB hc hg hm hv (xa_view1 ha he) hn hdb he hpl) fun _ _ _ h => rd_c1 sem h
theorem px_ct1 (hc : CallR X (.type T) r) (sem : CaS1 X r g) (hv : bootBuiltins x = some (.type T)) (hm : X.mg x = none) (ha : PX X W v p e m) (hg : Gl X x := by rfl) (hn : x ≠ "__name__" := by decide) (hdb : (x == ("__debug__" : Str)) = false := by decide)
    (he : starEach [e] X.env = (false, eval e X.env) :: starEach [] X.env := by rfl) (hpl : (backTo pos (starEach [] X.env)).any (·.1) = false := by rfl) : PX X W false p (.Call (.Name x ps) [e] [] pos) (m1 g m) :=
  peW (pe_callTy hc hg hm hv (xa_view1 ha he) hn hdb he hpl) fun _ _ _ h => rd_c1 sem h
theorem px_cbN (hc : CallR X (.builtin id) r) (sem : CaS X r gl) (hv : bootBuiltins x = some (.builtin id)) (hm : X.mg x = none) (ha : PXa X W p (e :: es) ms) (hg : Gl X x := by rfl) (hn : x ≠ "__name__" := by decide) (hdb : (x == ("__debug__" : Str)) = false := by decide)
    (he : starEach (e :: es) X.env = (false, eval e X.env) :: starEach es X.env := by rfl) (hpl : (backTo pos (starEach es X.env)).any (·.1) = false := by rfl) : PX X W false p (.Call (.Name x ps) (e :: es) [] pos) (mN gl ms) :=
  peW (pe_callB hc hg hm hv ha hn hdb he hpl) fun _ _ _ h => rd_cN sem h

/-! #### len -/
def gLen : G1
  | _, .tup xs => some (.int xs.length)
  | _, .lst xs => some (.int xs.length)
  | _, .scr xs => some (.int xs.length)
  | _, .str z => if z.length ≤ sizeLine then some (.int z.length) else none
  | _, .dic false ks _ => some (.int ks.length)
  | _, _ => none
theorem keysK_length : ∀ {ks : List D} {kk : List Key}, keysK ks = some kk → ks.length = kk.length
  | [], _, e => by cases e; rfl
  | k :: ks, kk, e => by
    unfold keysK at e
    cases e1 : keyK k with
    | none => rw [e1] at e; cases e
    | some k1 =>
      cases e2 : keysK ks with
      | none => rw [e1, e2] at e; cases e
      | some kr =>
        rw [e1, e2] at e
        simp only [Option.some.injEq] at e
        subst e
        rw [List.length_cons, List.length_cons, keysK_length e2]
theorem c_len : CaS1 X (fun xs H Q => (∃ x n, xs = [x] ∧ LenV X.K x H n ∧ Q (.int n) H) ∨ (∃ a kvs, xs = [V.ref a] ∧ H a = some (.dK kvs) ∧ Q (.int kvs.length) H)) gLen := by
  intro q σ H w d1 x d Q R h1 e k
  unfold gLen at e
  split at e
  · cases e
    obtain ⟨a, vs, rfl, t, r⟩ := vtup h1
    exact .inl ⟨_, vs.length, rfl, .inr ⟨vs, t.sq, rfl⟩, by rw [← r.length]; exact k _ H (fun _ _ z => z) rfl⟩
  · cases e
    obtain ⟨a, vs, rfl, t, r⟩ := vlst h1
    exact .inl ⟨_, vs.length, rfl, .inl ⟨vs, .inl (.inl t), rfl⟩, by rw [← r.length]; exact k _ H (fun _ _ z => z) rfl⟩
  · cases e
    obtain ⟨a, vs, rfl, t, r⟩ := vscr h1
    exact .inl ⟨_, vs.length, rfl, .inl ⟨vs, t.sq, rfl⟩, by rw [← r.length]; exact k _ H (fun _ _ z => z) rfl⟩
  · rename_i z
    split at e
    · rename_i hz
      cases e
      cases vstr h1
      exact .inl ⟨_, z.length, rfl, ⟨hz, rfl⟩, k _ H (fun _ _ z => z) rfl⟩
    · cases e
  · cases e
    obtain ⟨a, vs, o, rfl, t, ⟨kk, e1, e2, rfl⟩, r⟩ := vdic h1
    have l := keysK_length e1
    exact .inr ⟨a, _, rfl, t, by rw [List.length_zip, e2, Nat.min_self, ← l]; exact k _ H (fun _ _ z => z) rfl⟩
  · cases e
theorem px_len (hm : X.mg "len" = none) (ha : PX X W v p e m) (hg : Gl X "len" := by rfl) (he : starEach [e] X.env = (false, eval e X.env) :: starEach [] X.env := by rfl) (hpl : (backTo pos (starEach [] X.env)).any (·.1) = false := by rfl) :
    PX X W false p (.Call (.Name "len" ps) [e] [] pos) (m1 gLen m) := px_cb1 (CallR.or call_len call_lenD) c_len PySem.boot_len hm ha hg (by decide) (by decide) he hpl

/-! #### isinstance -/
def tyD : D → Option String
  | .non => some "NoneType"
  | .bl _ => some "bool"
  | .int _ => some "int"
  | .str _ => some "str"
  | .tup _ => some "tuple"
  | .lst _ => some "list"
  | .scr _ => some "list"
  | .dic _ _ _ => some "dict"
  | .loc _ => none
  | .gl _ => none
def subTy (t T : String) : Bool := t == T || (t == "bool" && T == "int")
def isD (T : String) (d : D) : Option Bool := (tyD d).map fun t => subTy t T
def KTy (T : String) : Prop := ∀ t ∈ ["NoneType", "bool", "int", "str", "tuple", "list", "dict"], kitB t T = some (subTy t T)
theorem kt_int : KTy "int" := by unfold KTy; decide +kernel
theorem kt_bool : KTy "bool" := by unfold KTy; decide +kernel
theorem kt_str : KTy "str" := by unfold KTy; decide +kernel
theorem kt_tuple : KTy "tuple" := by unfold KTy; decide +kernel
theorem kt_list : KTy "list" := by unfold KTy; decide +kernel
theorem kt_dict : KTy "dict" := by unfold KTy; decide +kernel
theorem tyx_of {K : PySem.W.Frag} {mg : Str → Option Value} {m : List Addr} {ow : Addr → Prop} {H : Hp} {d : D} {x : V} {t : String} (h : VRep K mg m ow H d x) (e : tyD d = some t) : TyX K H x (.type t) := by
  cases d with
  | non => cases e; cases vnon h; exact .base .non
  | bl b => cases e; cases vbl h; exact .base (.bl b)
  | int i => cases e; cases vint h; exact .base (.int i)
  | str x => cases e; cases vstr h; exact .base (.str x)
  | tup xs =>
    cases e
    obtain ⟨a, vs, rfl, ⟨t, _⟩ | ⟨o, _, _, t, c, _⟩, r⟩ := vtup h
    · exact .base (.tup t)
    · exact .kTuple t c
  | lst xs =>
    cases e
    obtain ⟨a, vs, rfl, t, r⟩ := vlst h
    exact .base (.lst t)
  | scr xs =>
    cases e
    obtain ⟨a, vs, rfl, ⟨⟨o, t⟩, _⟩ | ⟨o, _, _, t, c, _⟩, r⟩ := vscr h
    · exact .base (.frz t)
    · exact .kList t c
  | dic t ks xs =>
    cases e
    obtain ⟨a, vs, o, rfl, h1, hd, r⟩ := vdic h
    cases t with
    | false => obtain ⟨kk, _, _, rfl⟩ := hd; exact .base (.dK h1)
    | true => obtain ⟨kk, _, _, rfl⟩ := hd; exact .base (.dT h1)
  | loc l => cases e
  | gl x => cases e
theorem tyD_mem {d : D} {t : String} (e : tyD d = some t) : t ∈ ["NoneType", "bool", "int", "str", "tuple", "list", "dict"] := by
  cases d <;> cases e <;> simp
def gIsI (T : String) : G1 := fun _ d => (isD T d).map .bl
/-- isinstance(e, T) -/
theorem px_isi {x : Str} {p2 : Pos} (kt : KTy T) (hv : bootBuiltins x = some (.type T)) (hmx : X.mg x = none) (hm : X.mg "isinstance" = none) (ha : PX X W v p e m) (hg : Gl X "isinstance" := by rfl) (hgx : Gl X x := by rfl) (hn : x ≠ "__name__" := by decide) (hdb : (x == ("__debug__" : Str)) = false := by decide)
    (he : starEach [e, .Name x p2] X.env = (false, eval e X.env) :: starEach [.Name x p2] X.env := by rfl) (he2 : starEach [.Name x p2] X.env = (false, eval (.Name x p2) X.env) :: starEach [] X.env := by rfl) (hpl : (backTo pos (starEach [.Name x p2] X.env)).any (·.1) = false := by rfl) :
    PX X W false p (.Call (.Name "isinstance" ps) [e, .Name x p2] [] pos) (m1 (gIsI T) m) :=
  peW (pe_callB call_isi hg hm (by decide +kernel) (pa_cons ha (pa_cons (pe_bltn (v := .ty T) hgx hmx hv rfl hn hdb) pa_nil he2) he) (by decide) (by decide) he hpl) fun σ H Q ⟨q, w, R, c⟩ => ⟨q, w, R, (ct_rt c).bnd fun d1 q1 y H1 w1 e1 F1 R1 r1 c1 => by
    obtain ⟨d, ed, c2⟩ := Ct.op (show Ct X.K X.mg W true (VD X.K X.mg false) (mop ((isD T d1).map .bl)) q1 w1 σ H1 Q from c1)
    obtain ⟨b, eb, rfl⟩ := Option.map_eq_some_iff.mp ed
    obtain ⟨t, et, rfl⟩ := Option.map_eq_some_iff.mp eb
    exact ⟨y, .ty T, .type t, .type T, _, rfl, .ty T, tyx_of r1.view et, kit_ty (kt t (tyD_mem et)), c2.fin R1 _ H1 (fun _ _ z => z) rfl⟩⟩

/-! #### all, any, sum of a list of truths, of intsD -/
def bls : List D → Option (List Bool)
  | [] => some []
  | .bl b :: r => match bls r with
    | some bs => some (b :: bs)
    | none => none
  | _ :: _ => none
def intsD : List D → Option (List Int)
  | [] => some []
  | .int b :: r => match intsD r with
    | some bs => some (b :: bs)
    | none => none
  | _ :: _ => none
section
variable {K : PySem.W.Frag} {mg : Str → Option Value} {mm : List Addr} {ow : Addr → Prop} {H : Hp}
theorem bls_of : ∀ {ds : List D} {vs : List V} {bs : List Bool}, DReps K mg mm ow H ds vs → bls ds = some bs → vs = bs.map V.bl
  | [], _, _, h, e => by
    have h' : _ = [] := h
    cases e
    exact h'
  | d :: ds, _, bs, ⟨v, r, ev, h1, h2⟩, e => by
    cases d <;> first | (cases e; done) | skip
    unfold bls at e
    cases e2 : bls ds with
    | none => rw [e2] at e; cases e
    | some br =>
      rw [e2] at e
      cases e
      rw [ev, bls_of h2 e2, List.map_cons]
      exact congrArg (· :: _) (show v = .bl _ from h1)
theorem ints_of : ∀ {ds : List D} {vs : List V} {bs : List Int}, DReps K mg mm ow H ds vs → intsD ds = some bs → vs = bs.map V.int
  | [], _, _, h, e => by
    have h' : _ = [] := h
    cases e
    exact h'
  | d :: ds, _, bs, ⟨v, r, ev, h1, h2⟩, e => by
    cases d <;> first | (cases e; done) | skip
    unfold intsD at e
    cases e2 : intsD ds with
    | none => rw [e2] at e; cases e
    | some br =>
      rw [e2] at e
      cases e
      rw [ev, ints_of h2 e2, List.map_cons]
      exact congrArg (· :: _) (show v = .int _ from h1)
theorem dreps_ints : ∀ (ns : List Int), DReps K mg mm ow H (ns.map D.int) (ns.map V.int)
  | [] => rfl
  | n :: ns => ⟨_, _, rfl, rfl, dreps_ints ns⟩
end
def gAll : G1
  | _, .lst xs => (bls xs).map fun bs => .bl (bs.all fun b => b)
  | _, _ => none
def gAny : G1
  | _, .lst xs => (bls xs).map fun bs => .bl (bs.any fun b => b)
  | _, _ => none
def gSum : G1
  | _, .lst xs => (intsD xs).map fun bs => .int bs.sum
  | _, _ => none
theorem c_all : CaS1 X (rAll X.K) gAll := by
  intro q σ H w d1 x d Q R h1 e k
  cases d1 <;> first | (cases e; done) | skip
  obtain ⟨bs, eb, rfl⟩ := Option.map_eq_some_iff.mp e
  obtain ⟨a, vs, rfl, t, r⟩ := vlst h1
  exact ⟨a, bs, rfl, .inl (.inl (by rw [← bls_of r eb]; exact t)), k _ H (fun _ _ z => z) rfl⟩
theorem c_any : CaS1 X (rAny X.K) gAny := by
  intro q σ H w d1 x d Q R h1 e k
  cases d1 <;> first | (cases e; done) | skip
  obtain ⟨bs, eb, rfl⟩ := Option.map_eq_some_iff.mp e
  obtain ⟨a, vs, rfl, t, r⟩ := vlst h1
  exact ⟨a, bs, rfl, .inl (.inl (by rw [← bls_of r eb]; exact t)), k _ H (fun _ _ z => z) rfl⟩
theorem c_sum : CaS1 X (rSum X.K) gSum := by
  intro q σ H w d1 x d Q R h1 e k
  cases d1 <;> first | (cases e; done) | skip
  obtain ⟨bs, eb, rfl⟩ := Option.map_eq_some_iff.mp e
  obtain ⟨a, vs, rfl, t, r⟩ := vlst h1
  exact ⟨a, bs, rfl, .inl (.inl (by rw [← ints_of r eb]; exact t)), k _ H (fun _ _ z => z) rfl⟩
theorem px_all (hc : X.calm = true) (hm : X.mg "all" = none) (ha : PX X W v p e m) (hg : Gl X "all" := by rfl) (he : starEach [e] X.env = (false, eval e X.env) :: starEach [] X.env := by rfl) (hpl : (backTo pos (starEach [] X.env)).any (·.1) = false := by rfl) :
    PX X W false p (.Call (.Name "all" ps) [e] [] pos) (m1 gAll m) := px_cb1 (cr_all hc) c_all (by decide +kernel) hm ha hg (by decide) (by decide) he hpl
theorem px_any (hc : X.calm = true) (hm : X.mg "any" = none) (ha : PX X W v p e m) (hg : Gl X "any" := by rfl) (he : starEach [e] X.env = (false, eval e X.env) :: starEach [] X.env := by rfl) (hpl : (backTo pos (starEach [] X.env)).any (·.1) = false := by rfl) :
    PX X W false p (.Call (.Name "any" ps) [e] [] pos) (m1 gAny m) := px_cb1 (cr_any hc) c_any (by decide +kernel) hm ha hg (by decide) (by decide) he hpl
theorem px_sum (hc : X.calm = true) (hm : X.mg "sum" = none) (ha : PX X W v p e m) (hg : Gl X "sum" := by rfl) (he : starEach [e] X.env = (false, eval e X.env) :: starEach [] X.env := by rfl) (hpl : (backTo pos (starEach [] X.env)).any (·.1) = false := by rfl) :
    PX X W false p (.Call (.Name "sum" ps) [e] [] pos) (m1 gSum m) := px_cb1 (cr_sum hc) c_sum (by decide +kernel) hm ha hg (by decide) (by decide) he hpl

/-! #### int(b), max, min of two, list(x), tuple(x) -/
def gInt : G1
  | _, .int i => some (.int i)
  | _, .bl b => some (.int (if b then 1 else 0))
  | _, _ => none
theorem c_int : CaS1 X (fun xs H Q => (∃ i, xs = [.int i] ∧ Q (.int i) H) ∨ ∃ k, xs = [.bl k] ∧ Q (.int (if k then 1 else 0)) H) gInt := by
  intro q σ H w d1 x d Q R h1 e k
  cases d1 <;> first | (cases e; done) | skip
  · cases e
    cases vbl h1
    exact .inr ⟨_, rfl, k _ H (fun _ _ z => z) rfl⟩
  · cases e
    cases vint h1
    exact .inl ⟨_, rfl, k _ H (fun _ _ z => z) rfl⟩
theorem px_toint (hm : X.mg "int" = none) (ha : PX X W v p e m) (hg : Gl X "int" := by rfl) (he : starEach [e] X.env = (false, eval e X.env) :: starEach [] X.env := by rfl) (hpl : (backTo pos (starEach [] X.env)).any (·.1) = false := by rfl) :
    PX X W false p (.Call (.Name "int" ps) [e] [] pos) (m1 gInt m) := px_ct1 call_int1 c_int (by decide +kernel) hm ha hg (by decide) (by decide) he hpl
def gMax2 : GL
  | _, [.int i, .int j] => some (.int (if j > i then j else i))
  | _, _ => none
def gMin2 : GL
  | _, [.int i, .int j] => some (.int (if j < i then j else i))
  | _, _ => none
theorem c_max2 : CaS X (fun xs H Q => ∃ i j, xs = [.int i, .int j] ∧ Q (.int (if j > i then j else i)) H) gMax2 := by
  intro q σ H w ds xs d Q R h1 e k
  unfold gMax2 at e
  split at e
  · obtain ⟨_, _, rfl, h2, _, _, rfl, h3, rfl⟩ := h1
    cases e
    cases (show _ = V.int _ from h2)
    cases (show _ = V.int _ from h3)
    exact ⟨_, _, rfl, k _ H (fun _ _ z => z) rfl⟩
  · cases e
theorem c_min2 : CaS X (fun xs H Q => ∃ i j, xs = [.int i, .int j] ∧ Q (.int (if j < i then j else i)) H) gMin2 := by
  intro q σ H w ds xs d Q R h1 e k
  unfold gMin2 at e
  split at e
  · obtain ⟨_, _, rfl, h2, _, _, rfl, h3, rfl⟩ := h1
    cases e
    cases (show _ = V.int _ from h2)
    cases (show _ = V.int _ from h3)
    exact ⟨_, _, rfl, k _ H (fun _ _ z => z) rfl⟩
  · cases e
theorem px_max2 (hc : X.calm = true) (hm : X.mg "max" = none) (ha : PXa X W p (e :: es) ms) (hg : Gl X "max" := by rfl) (he : starEach (e :: es) X.env = (false, eval e X.env) :: starEach es X.env := by rfl) (hpl : (backTo pos (starEach es X.env)).any (·.1) = false := by rfl) :
    PX X W false p (.Call (.Name "max" ps) (e :: es) [] pos) (mN gMax2 ms) := px_cbN (call_max2 hc) c_max2 (by decide +kernel) hm ha hg (by decide) (by decide) he hpl
theorem px_min2 (hc : X.calm = true) (hm : X.mg "min" = none) (ha : PXa X W p (e :: es) ms) (hg : Gl X "min" := by rfl) (he : starEach (e :: es) X.env = (false, eval e X.env) :: starEach es X.env := by rfl) (hpl : (backTo pos (starEach es X.env)).any (·.1) = false := by rfl) :
    PX X W false p (.Call (.Name "min" ps) (e :: es) [] pos) (mN gMin2 ms) := px_cbN (call_min2 hc) c_min2 (by decide +kernel) hm ha hg (by decide) (by decide) he hpl
def gList : G1
  | _, .tup xs => some (.lst xs)
  | _, .lst xs => some (.lst xs)
  | _, _ => none
def gTuple : G1
  | _, .tup xs => some (.tup xs)
  | _, .lst xs => some (.tup xs)
  | _, _ => none
theorem c_list : CaS1 X (fun xs H Q => ∃ p ys, xs = [.ref p] ∧ (SqL X.K H p ys ∨ SqT X.K H p ys) ∧ ∀ l, H l = none → Q (.ref l) (upd H l (.lst ys))) gList := by
  intro q σ H w d1 x d Q R h1 e k
  cases d1 <;> first | (cases e; done) | skip
  · cases e
    obtain ⟨a, vs, rfl, t, r⟩ := vtup h1
    exact ⟨a, vs, rfl, .inr t.sq, fun l hl => k _ _ (upd_keep hl) (new_lst R hl r)⟩
  · cases e
    obtain ⟨a, vs, rfl, t, r⟩ := vlst h1
    exact ⟨a, vs, rfl, .inl (.inl (.inl t)), fun l hl => k _ _ (upd_keep hl) (new_lst R hl r)⟩
theorem c_tuple : CaS1 X (fun xs H Q => ∃ p ys, xs = [.ref p] ∧ ((SqL X.K H p ys ∧ ∀ l, H l = none → Q (.ref l) (upd H l (.tup ys))) ∨ (SqT X.K H p ys ∧ Q (.ref p) H))) gTuple := by
  intro q σ H w d1 x d Q R h1 e k
  cases d1 <;> first | (cases e; done) | skip
  · cases e
    obtain ⟨a, vs, rfl, t, r⟩ := vtup h1
    exact ⟨a, vs, rfl, .inr ⟨t.sq, k _ _ (fun _ _ z => z) ⟨a, vs, rfl, t, r⟩⟩⟩
  · cases e
    obtain ⟨a, vs, rfl, t, r⟩ := vlst h1
    exact ⟨a, vs, rfl, .inl ⟨.inl (.inl t), fun l hl => k _ _ (upd_keep hl) (new_tup R hl r)⟩⟩
theorem px_tolist (hm : X.mg "list" = none) (ha : PX X W v p e m) (hg : Gl X "list" := by rfl) (he : starEach [e] X.env = (false, eval e X.env) :: starEach [] X.env := by rfl) (hpl : (backTo pos (starEach [] X.env)).any (·.1) = false := by rfl) :
    PX X W false p (.Call (.Name "list" ps) [e] [] pos) (m1 gList m) := px_ct1 call_list_of c_list (by decide +kernel) hm ha hg (by decide) (by decide) he hpl
theorem px_totuple (hm : X.mg "tuple" = none) (ha : PX X W v p e m) (hg : Gl X "tuple" := by rfl) (he : starEach [e] X.env = (false, eval e X.env) :: starEach [] X.env := by rfl) (hpl : (backTo pos (starEach [] X.env)).any (·.1) = false := by rfl) :
    PX X W false p (.Call (.Name "tuple" ps) [e] [] pos) (m1 gTuple m) := px_ct1 call_tuple_of c_tuple (by decide +kernel) hm ha hg (by decide) (by decide) he hpl
end
end Fy

set_option maxHeartbeats 1000000
namespace Fy
open PySem PySem.Spec L2

/-! ### statements -/
inductive Fl8 where
  | nx | rt (t : T) | bk | ct
abbrev S8 := Q8 → Out Fl8
/-- a value that is handed back -/
structure RetOk (K : PySem.W.Frag) (mg : Str → Option Value) (H : Hp) (w : Wd) (t : T) (x : V) (H' : Hp) (w' : Wd) (l : List Addr) : Prop where
  fr : Fr false H w H' w'
  own : ∀ a ∈ l, ¬ w'.ow a ∧ (H a = none ∨ a ∈ w.fp) ∧ H' a ≠ none
  nd : l.Nodup
  rep : TRep K mg w'.m (fun a => w'.ow a ∨ a ∈ l) H' t x l
/-- what is handed back is no one's yet -/
def Wd.plusl (w : Wd) (l : List Addr) : Wd := ⟨w.m, w.fp, fun a => w.oo a ∨ a ∈ l, w.ro⟩
section
variable {K : PySem.W.Frag} {mg : Str → Option Value} {q : Q8} {w : Wd} {σ : L2.St} {H : Hp} {l : List Addr}
theorem plusl_ow {a : Addr} : (w.plusl l).ow a ↔ w.ow a ∨ a ∈ l := by
  unfold Wd.ow Wd.plusl
  constructor
  · rintro (h | h | h)
    · exact .inl (.inl h)
    · exact .inl (.inr h)
    · exact .inr h
  · rintro ((h | h) | h)
    · exact .inl h
    · exact .inr (.inl h)
    · exact .inr (.inr h)
theorem mo_minusl {l0 : List Addr} : Mo w.m w.m (w.plusl l).ow w.ow l0 H H := ⟨List.prefix_refl _, fun _ _ e _ => e, fun a _ n x => n (plusl_ow.mpr (.inl x))⟩
theorem Rp.minusl (R : Rp K mg q σ H (w.plusl l)) (hr : ∀ a, w.ro a → w.oo a) : Rp K mg q σ H w where
  ex := by
    obtain ⟨l1, l2, h1, h2, nd, h3⟩ := R.ex
    exact ⟨l1, l2, h1.mono mo_minusl, h2.mono mo_minusl, nd, h3⟩
  ro := hr
  apart := fun a h z => R.apart a h (.inl z)
  there := fun a h => R.there a (plusl_ow.mpr (.inl h))
theorem Rp.plusl0 (R : Rp K mg q σ H w) : Rp K mg q σ H (w.plusl []) where
  ex := by
    have mo : ∀ l0, Mo w.m w.m w.ow (w.plusl []).ow l0 H H := fun l0 => ⟨List.prefix_refl _, fun _ _ e _ => e, fun a _ n x => (plusl_ow.mp x).elim n fun z => absurd z (by simp)⟩
    obtain ⟨l1, l2, h1, h2, nd, h3⟩ := R.ex
    exact ⟨l1, l2, h1.mono (mo _), h2.mono (mo _), nd, h3⟩
  ro := fun a h => .inl (R.ro a h)
  apart := fun a h z => z.elim (R.apart a h) fun z => absurd z (by simp)
  there := fun a h => R.there a ((plusl_ow.mp h).elim id fun z => absurd z (by simp))
end
def CtS (K : PySem.W.Frag) (mg : Str → Option Value) (W : WX) (m : S8) (q : Q8) (w : Wd) (σ : L2.St) (H : Hp) (Dn : Ends) : Prop :=
  match m q with
  | .ok .nx q' => ∀ σ' H' w', Fr false H w H' w' → Rp K mg q' σ' H' w' → Dn.nx σ' H'
  | .ok .bk q' => ∀ σ' H' w', Fr false H w H' w' → Rp K mg q' σ' H' w' → Dn.bk σ' H'
  | .ok .ct q' => ∀ σ' H' w', Fr false H w H' w' → Rp K mg q' σ' H' w' → Dn.ct σ' H'
  | .ok (.rt t) q' => ∀ x H' w' l, RetOk K mg H w t x H' w' l → Rp K mg ⟨[], q'.s, q'.w⟩ [] H' (w'.plusl l) → Dn.rt x H'
  | .exc e q' => ∀ σ' c a H' w', Fr false H w H' w' → Rp K mg q' σ' H' w' → XRep K mg w'.m w'.ow H' e c a → W c a σ' H'
  | .no => False
def RdS (K : PySem.W.Frag) (mg : Str → Option Value) (W : WX) (m : S8) : TS := fun Dn σ H => ∃ q w, Rp K mg q σ H w ∧ CtS K mg W m q w σ H Dn
abbrev SX (X : Cx) (W : WX) (st : Stmt) (m : S8) : Prop := PS X st (RdS X.K X.mg W m)
abbrev SXs (X : Cx) (W : WX) (st : List Stmt) (m : S8) : Prop := PSs X st (RdS X.K X.mg W m)
theorem psW {X : Cx} {st : Stmt} {t t' : TS} (h : PS X st t) (k : ∀ D σ H, t' D σ H → t D σ H) : PS X st t' := ⟨fun pins s σ H D I hq => h.run pins s σ H D I (k _ _ _ hq)⟩
theorem pssW {X : Cx} {st : List Stmt} {t t' : TS} (h : PSs X st t) (k : ∀ D σ H, t' D σ H → t D σ H) : PSs X st t' := ⟨fun pins s σ H D I hq => h.run pins s σ H D I (k _ _ _ hq)⟩

def sseq (a b : S8) : S8 := bnd a fun f => match f with
  | .nx => b
  | f => mret f
def snext : S8 := mret .nx
def sdrop (m : M8) : S8 := bnd m fun _ => snext
def sset (i : Nat) (m : M8) : S8 := bnd m fun d q => if i < q.r.length then .ok .nx { q with r := q.r.set i (some (.d d)) } else .no
def sret (m : M8) : S8 := bnd m fun d => mret (.rt (.d d))
def sretN : S8 := mret (.rt (.d .non))
def sif (t : Q8 → Out Bool) (a b : S8) : S8 := bnd t fun c => if c = true then a else b
def sno : S8 := fun _ => .no
def swhileN (c : Q8 → Out Bool) (b : S8) : Nat → S8
  | 0 => fun _ => .no
  | n + 1 => bnd c fun k => if k = true then bnd b fun f => match f with
    | .nx => swhileN c b n
    | .ct => swhileN c b n
    | .bk => mret .nx
    | .rt t => mret (.rt t)
    else mret .nx

section
variable {K : PySem.W.Frag} {mg : Str → Option Value} {W : WX} {p : Bool} {α β : Type} {rel : Rl α β} {q : Q8} {w w1 : Wd} {σ σ1 : L2.St} {H H1 : Hp} {Dn : Ends}
theorem RetOk.trans {t : T} {x : V} {H' : Hp} {w' : Wd} {l : List Addr} {p : Bool} (F : Fr p H w H1 w1) (r : RetOk K mg H1 w1 t x H' w' l) : RetOk K mg H w t x H' w' l where
  fr := (F.loose.trans r.fr).loose
  own := fun a ha => by
    obtain ⟨h1, h2, h3⟩ := r.own a ha
    refine ⟨h1, ?_, h3⟩
    cases e : H a with
    | none => exact .inl rfl
    | some o =>
      by_cases hf : a ∈ w.fp
      · exact .inr hf
      · rcases h2 with h2 | h2
        · rw [F.keep a o e hf] at h2; cases h2
        · exact absurd h2 (F.out a (by rw [e]; simp) hf)
  nd := r.nd
  rep := r.rep
/-- from a later state to an earlier one -/
theorem CtS.from {m : S8} {m' : S8} {q' : Q8} {p : Bool} (F : Fr p H w H1 w1) (e : m q = m' q') (h : CtS K mg W m q w σ H Dn) : CtS K mg W m' q' w1 σ1 H1 Dn := by
  unfold CtS at h ⊢
  rw [← e]
  cases e2 : m q with
  | no => rw [e2] at h; exact h
  | exc x q2 => rw [e2] at h; exact fun σ' c a H' w' F2 R z => h σ' c a H' w' (F.loose.trans F2) R z
  | ok f q2 =>
    rw [e2] at h
    cases f with
    | nx => exact fun σ' H' w' F2 R => h σ' H' w' (F.loose.trans F2) R
    | bk => exact fun σ' H' w' F2 R => h σ' H' w' (F.loose.trans F2) R
    | ct => exact fun σ' H' w' F2 R => h σ' H' w' (F.loose.trans F2) R
    | rt t => exact fun x H' w' l r R => h x H' w' l (r.trans F) R
theorem CtS.bnd {m : Q8 → Out α} {f : α → S8} {Q' : β → Hp → Prop} (h : CtS K mg W (Fy.bnd m f) q w σ H Dn)
    (k : ∀ d q1 x H1 w1, m q = .ok d q1 → Fr p H w H1 w1 → Rp K mg q1 σ H1 w1 → rel w1 H1 d x → CtS K mg W (f d) q1 w1 σ H1 Dn → Q' x H1) : Ct K mg W p rel m q w σ H Q' := by
  unfold Ct
  cases e : m q with
  | no =>
    unfold CtS Fy.bnd at h
    rw [e] at h; exact h
  | exc x q' =>
    unfold CtS Fy.bnd at h
    rw [e] at h
    exact fun c a H' w' F R z => h σ c a H' w' F.loose R z
  | ok d q1 =>
    intro x H1 w1 F R r
    exact k d q1 x H1 w1 e F R r (h.from F (by unfold Fy.bnd; rw [e]))
/-- one statement behind another -/
theorem CtS.bndS {a : S8} {f : Fl8 → S8} {Dn' : Ends} (h : CtS K mg W (Fy.bnd a f) q w σ H Dn)
    (nx : ∀ q1 σ1 H1 w1, Rp K mg q1 σ1 H1 w1 → CtS K mg W (f .nx) q1 w1 σ1 H1 Dn → Dn'.nx σ1 H1)
    (bk : ∀ q1 σ1 H1 w1, Rp K mg q1 σ1 H1 w1 → CtS K mg W (f .bk) q1 w1 σ1 H1 Dn → Dn'.bk σ1 H1)
    (ct : ∀ q1 σ1 H1 w1, Rp K mg q1 σ1 H1 w1 → CtS K mg W (f .ct) q1 w1 σ1 H1 Dn → Dn'.ct σ1 H1)
    (rt : ∀ t q1, f (.rt t) q1 = .ok (.rt t) q1) (er : Dn'.rt = Dn.rt) : CtS K mg W a q w σ H Dn' := by
  unfold CtS
  cases e : a q with
  | no =>
    unfold CtS Fy.bnd at h
    rw [e] at h; exact h
  | exc x q' =>
    unfold CtS Fy.bnd at h
    rw [e] at h; exact h
  | ok fl q1 =>
    cases fl with
    | nx => exact fun σ' H' w' F R => nx q1 σ' H' w' R (h.from F (by unfold Fy.bnd; rw [e]))
    | bk => exact fun σ' H' w' F R => bk q1 σ' H' w' R (h.from F (by unfold Fy.bnd; rw [e]))
    | ct => exact fun σ' H' w' F R => ct q1 σ' H' w' R (h.from F (by unfold Fy.bnd; rw [e]))
    | rt t =>
      unfold CtS Fy.bnd at h
      rw [e] at h
      simp only [rt] at h
      rw [er]
      exact h
theorem CtS.next (h : CtS K mg W snext q w σ H Dn) (R : Rp K mg q σ H w) : Dn.nx σ H := h σ H w Fr.refl R
/-- the locals are let go -/
theorem Rp.drop (R : Rp K mg q σ H w) : ∃ w', Rp K mg ⟨[], q.s, q.w⟩ [] H w' ∧ Fr false H w H w' ∧ w'.m = w.m ∧ w'.oo = w.oo ∧ ∀ a, a ∈ w'.fp → a ∈ w.fp := by
  obtain ⟨l1, l2, h1, h2, nd, hw⟩ := R.ex
  have key : ∀ fp', (∀ a, a ∈ fp' → a ∈ w.fp) → (([] ++ l2).Nodup ∧ ((q.w = true ∧ fp' = [] ++ l2) ∨ (q.w = false ∧ fp' = [] ∧ ∀ a ∈ l2, w.ro a))) →
      ∃ w', Rp K mg ⟨[], q.s, q.w⟩ [] H w' ∧ Fr false H w H w' ∧ w'.m = w.m ∧ w'.oo = w.oo ∧ ∀ a, a ∈ w'.fp → a ∈ w.fp := by
    intro fp' hs hc
    have sub : ∀ a, Wd.ow ⟨w.m, fp', w.oo, w.ro⟩ a → w.ow a := fun a h => h.imp (hs a) fun x => x
    refine ⟨⟨w.m, fp', w.oo, w.ro⟩, ⟨⟨[], l2, ⟨rfl, rfl⟩, h2.mono ⟨List.prefix_refl _, fun _ _ e _ => e, fun a _ n x => n (sub a x)⟩, hc⟩, R.ro, fun a ha => R.apart a (hs a ha), fun a ha => R.there a (sub a ha)⟩,
      ⟨fun _ _ e _ => e, fun a _ n x => n (hs a x), rfl, rfl, List.prefix_refl _, fun h => nomatch h⟩, rfl, rfl, hs⟩
  rcases hw with ⟨e1, e2⟩ | ⟨e1, e2, e3⟩
  · exact key l2 (fun a ha => by rw [e2]; exact List.mem_append_right _ ha) ⟨(List.nodup_append.mp nd).2.1, .inl ⟨e1, rfl⟩⟩
  · exact key [] (fun a ha => absurd ha (by simp)) ⟨(List.nodup_append.mp nd).2.1, .inr ⟨e1, rfl, e3⟩⟩
end

section
variable {X : Cx} {W : WX} {v p : Bool} {e c : Expr} {m : M8} {t : Q8 → Out Bool} {a b : S8} {st : Stmt} {rest sa sb : List Stmt} {pos pos' : Pos}
theorem sx_nil : SXs X W [] snext := pssW pss_nil fun D σ H ⟨q, w, R, h⟩ => h.next R
theorem sx_one (h : SX X W st a) : SXs X W [st] a := pss_one h
theorem sx_cons (h1 : SX X W st a) (h2 : SXs X W rest b) : SXs X W (st :: rest) (sseq a b) :=
  pssW (pss_cons h1 h2) fun D σ H ⟨q, w, R, h⟩ => ⟨q, w, R, h.bndS (fun q1 σ1 H1 w1 R1 h1 => ⟨q1, w1, R1, h1⟩) (fun q1 σ1 H1 w1 R1 h1 => h1 σ1 H1 w1 Fr.refl R1) (fun q1 σ1 H1 w1 R1 h1 => h1 σ1 H1 w1 Fr.refl R1) (fun _ _ => rfl) rfl⟩
theorem sx_pass : SX X W (.Pass pos) snext := psW ps_pass fun D σ H ⟨q, w, R, h⟩ => h.next R
theorem sx_break : SX X W (.Break pos) (mret .bk) := psW ps_break fun D σ H ⟨q, w, R, h⟩ => h σ H w Fr.refl R
theorem sx_cont : SX X W (.Continue pos) (mret .ct) := psW ps_continue fun D σ H ⟨q, w, R, h⟩ => h σ H w Fr.refl R
/-- code that is never come to -/
theorem sx_never : SX X W st sno := psW ps_never fun D σ H ⟨q, w, R, h⟩ => h
theorem sx_expr (he : PX X W v p e m) (hs : swapsWith e none pos.line X.env = pure false := by rfl) : SX X W (.Expr e pos) (sdrop m) :=
  psW (ps_expr he hs) fun D σ H ⟨q, w, R, h⟩ => ⟨q, w, R, h.bnd fun d q1 x H1 w1 e1 F1 R1 r1 h1 => h1.next R1⟩
theorem ctS_set {i : Nat} {d : D} {q : Q8} {w : Wd} {σ : L2.St} {H : Hp} {x : V} {Dn : Ends} (R : Rp X.K X.mg q σ H w) (r : DRep X.K X.mg w.m w.ow H d x)
    (h : CtS X.K X.mg W (fun q => if i < q.r.length then .ok .nx { q with r := q.r.set i (some (.d d)) } else .no) q w σ H Dn) : Dn.nx (σ.set i (some x)) H := by
  unfold CtS at h
  dsimp only at h
  split at h
  · rename_i he
    split at he
    · rename_i hi
      cases he
      obtain ⟨w', R', F'⟩ := R.putD hi r
      exact h _ H w' F' R'
    · cases he
  · rename_i he
    split at he <;> cases he
  · rename_i he
    split at he <;> cases he
  · rename_i he
    split at he <;> cases he
  · rename_i he
    split at he <;> cases he
  · exact h.elim
theorem sx_set {i : Nat} {x : Str} (hN : X.N.Nodup) (he : PX X W false p e m) (hi : X.N[i]? = some x := by rfl) (hx : Loc X.env.scope x := by first | exact Or.inl rfl | exact Or.inr rfl) (hs : swapsWith e (some (.Name x pos')) pos.line X.env = pure false := by rfl) (hf : X.fn x = true ∨ X.env.scope.names.lookup x = some .local := by first | exact .inl rfl | exact .inr rfl | assumption) :
    SX X W (.Assign [.Name x pos'] e pos) (sset i m) :=
  psW (ps_set hN hi hx he hs hf) fun D σ H ⟨q, w, R, h⟩ => ⟨q, w, R, h.bnd fun d q1 x H1 w1 e1 F1 R1 r1 h1 => ctS_set R1 r1 h1⟩
theorem retD {K : PySem.W.Frag} {mg : Str → Option Value} {d : D} {q : Q8} {w : Wd} {σ : L2.St} {H : Hp} {x : V} {Dn : Ends} (R : Rp K mg q σ H w) (r : DRep K mg w.m w.ow H d x) (h : CtS K mg W (mret (.rt (.d d))) q w σ H Dn) : Dn.rt x H := by
  obtain ⟨w', R', F', em, eo, hs⟩ := R.drop
  refine h x H w' [] ⟨F', fun a ha => absurd ha (by simp), List.nodup_nil, ⟨?_, rfl⟩⟩ R'.plusl0
  rw [em]
  refine r.mono (l := []) ⟨List.prefix_refl _, fun _ _ e _ => e, fun a _ n z => ?_⟩
  rcases z with (z | z) | z
  · exact n (.inl (hs a z))
  · rw [eo] at z; exact n (.inr z)
  · exact absurd z (by simp)
theorem sx_ret (he : PX X W false p e m) : SX X W (.Return (some e) pos) (sret m) :=
  psW (ps_ret he) fun D σ H ⟨q, w, R, h⟩ => ⟨q, w, R, h.bnd fun d q1 x H1 w1 e1 F1 R1 r1 h1 => retD R1 r1 h1⟩
theorem sx_retN : SX X W (.Return none pos) sretN := psW ps_retN fun D σ H ⟨q, w, R, h⟩ => retD (d := .non) R rfl h
theorem sx_if (hc : PXt X W p c t) (ha : SXs X W sa a) (hb : SXs X W sb b) : SX X W (.If c sa sb pos) (sif t a b) :=
  psW (ps_if hc ha hb) fun D σ H ⟨q, w, R, h⟩ => ⟨q, w, R, h.bnd fun d q1 x H1 w1 e1 F1 R1 r1 h1 => by
    cases (show x = d from r1)
    cases d with
    | true => exact ⟨q1, w1, R1, h1⟩
    | false => exact ⟨q1, w1, R1, h1⟩⟩
theorem sx_whileN (hp : PassesOwn (model X.prog X.w) X.A X.env X.xe) (hc : PXt X W p c t) (hb : SXs X W sb b) (n : Nat) : SX X W (.While c sb [] pos) (swhileN t b n) :=
  psW (ps_while hp hc hb) fun D σ H h => by
    refine ⟨fun n σ H => RdS X.K X.mg W (swhileN t b n) D σ H, ⟨n, h⟩, fun n σ H h => ?_⟩
    obtain ⟨q, w, R, h⟩ := h
    cases n with
    | zero => exact h.elim
    | succ n =>
      refine ⟨q, w, R, h.bnd fun d q1 x H1 w1 e1 F1 R1 r1 h1 => ?_⟩
      cases (show x = d from r1)
      cases d with
      | false => exact h1 σ H1 w1 Fr.refl R1
      | true =>
        refine ⟨fun σ' H' => RdS X.K X.mg W (swhileN t b n) D σ' H', fun σ' H' z => ⟨n, Nat.lt_succ_self n, z⟩, ⟨q1, w1, R1, ?_⟩⟩
        exact h1.bndS (fun q1 σ1 H1 w1 R1 h1 => ⟨q1, w1, R1, h1⟩) (fun q1 σ1 H1 w1 R1 h1 => h1 σ1 H1 w1 Fr.refl R1) (fun q1 σ1 H1 w1 R1 h1 => ⟨q1, w1, R1, h1⟩) (fun _ _ => rfl) rfl
open Classical in
/-- a while: as many turns as it takes -/
noncomputable def swhile (c : Q8 → Out Bool) (b : S8) : S8 := fun q => if h : ∃ n r, swhileN c b n q = r ∧ r ≠ .no then swhileN c b (Classical.choose h) q else .no
theorem sx_while (hp : PassesOwn (model X.prog X.w) X.A X.env X.xe) (hc : PXt X W p c t) (hb : SXs X W sb b) : SX X W (.While c sb [] pos) (swhile t b) := by
  refine ⟨fun pins s σ H D I h => ?_⟩
  obtain ⟨q, w, R, h⟩ := h
  unfold CtS swhile at h
  split at h <;> rename_i he <;> split at he <;> first
    | (cases he; done)
    | exact h.elim
    | (rename_i hx
       refine (sx_whileN (pos := pos) hp hc hb (Classical.choose hx)).run pins s σ H D I ⟨q, w, R, ?_⟩
       unfold CtS
       rw [he]
       exact h)
theorem swhileN_mono {c : Q8 → Out Bool} {b : S8} : ∀ {n : Nat} {q : Q8} {r : Out Fl8}, swhileN c b n q = r → r ≠ .no → ∀ k, swhileN c b (n + k) q = r
  | 0, q, r, h, hr => absurd h.symm hr
  | n + 1, q, r, h, hr => fun k => by
    rw [Nat.add_right_comm]
    unfold swhileN bnd at h ⊢
    cases e : c q with
    | no => rw [e] at h; exact h
    | exc x q' => rw [e] at h; exact h
    | ok d q1 =>
      rw [e] at h
      cases d with
      | false => exact h
      | true =>
        simp only [if_true] at h ⊢
        cases e2 : b q1 with
        | no => rw [e2] at h; exact h
        | exc x q' => rw [e2] at h; exact h
        | ok f q2 =>
          rw [e2] at h
          cases f with
          | nx => exact swhileN_mono h hr k
          | ct => exact swhileN_mono h hr k
          | bk => exact h
          | rt t => exact h
theorem swhile_of {c : Q8 → Out Bool} {b : S8} {n : Nat} {q : Q8} {r : Out Fl8} (h : swhileN c b n q = r) (hr : r ≠ .no) : swhile c b q = r := by
  unfold swhile
  have hx : ∃ n r, swhileN c b n q = r ∧ r ≠ .no := ⟨n, r, h, hr⟩
  rw [dif_pos hx]
  obtain ⟨r', h1, h2⟩ := Classical.choose_spec hx
  have e1 := swhileN_mono h1 h2 n
  have e2 := swhileN_mono h hr (Classical.choose hx)
  rw [h1]
  rw [Nat.add_comm] at e1
  exact e1.symm.trans e2
theorem swhile_no {c : Q8 → Out Bool} {b : S8} {q : Q8} (h : ∀ n, swhileN c b n q = .no) : swhile c b q = .no := by
  unfold swhile
  rw [dif_neg]
  rintro ⟨n, r, h1, h2⟩
  rw [h n] at h1
  exact h2 h1.symm
/-- one turn of a while -/
def swhile1 (c : Q8 → Out Bool) (b : S8) (z : S8) : S8 := bnd c fun k => if k = true then bnd b fun f => match f with
    | .nx => z
    | .ct => z
    | .bk => mret .nx
    | .rt t => mret (.rt t)
    else mret .nx
theorem swhile_step {c : Q8 → Out Bool} {b : S8} {q : Q8} {r : Out Fl8} (h : swhile1 c b (swhile c b) q = r) (hr : r ≠ .no) : swhile c b q = r := by
  have fin : ∀ q, ∃ n, swhileN c b n q = swhile c b q := fun q => by
    by_cases hx : ∃ n r, swhileN c b n q = r ∧ r ≠ .no
    · exact ⟨Classical.choose hx, by unfold swhile; rw [dif_pos hx]⟩
    · exact ⟨0, by unfold swhile; rw [dif_neg hx]; rfl⟩
  have step : ∃ n, swhileN c b (n + 1) q = r := by
    unfold swhile1 bnd at h
    cases e : c q with
    | no => rw [e] at h; exact ⟨0, by unfold swhileN bnd; rw [e]; exact h⟩
    | exc x q' => rw [e] at h; exact ⟨0, by unfold swhileN bnd; rw [e]; exact h⟩
    | ok d q1 =>
      rw [e] at h
      cases d with
      | false => exact ⟨0, by unfold swhileN bnd; rw [e]; exact h⟩
      | true =>
        simp only [if_true] at h
        cases e2 : b q1 with
        | no => rw [e2] at h; exact ⟨0, by unfold swhileN bnd; rw [e]; simp only [if_true]; rw [e2]; exact h⟩
        | exc x q' => rw [e2] at h; exact ⟨0, by unfold swhileN bnd; rw [e]; simp only [if_true]; rw [e2]; exact h⟩
        | ok f q2 =>
          rw [e2] at h
          cases f with
          | bk => exact ⟨0, by unfold swhileN bnd; rw [e]; simp only [if_true]; rw [e2]; exact h⟩
          | rt t => exact ⟨0, by unfold swhileN bnd; rw [e]; simp only [if_true]; rw [e2]; exact h⟩
          | nx =>
            obtain ⟨n, hn⟩ := fin q2
            exact ⟨n, by unfold swhileN bnd; rw [e]; simp only [if_true]; rw [e2]; exact hn.trans h⟩
          | ct =>
            obtain ⟨n, hn⟩ := fin q2
            exact ⟨n, by unfold swhileN bnd; rw [e]; simp only [if_true]; rw [e2]; exact hn.trans h⟩
  obtain ⟨n, hn⟩ := step
  exact swhile_of hn hr
end
end Fy

set_option maxHeartbeats 1000000
namespace Fy
open PySem PySem.Spec PyProof.Rows L2

/-! ### sources that are walked: a list, a tuple, a text -/
inductive SK where
  | lst (a : Addr) | tup (a : Addr) | txt (x : Str)
def SK.v : SK → V
  | .lst a => .ref a
  | .tup a => .ref a
  | .txt x => .str x
def SK.it1 : SK → Addr → Nat → Heap → Prop
  | .lst a, it, i, h => h.IsListIter it a i
  | .tup a, it, i, h => h.IsTupleIter it a i
  | .txt x, it, i, h => ∃ t, h.IsStrIter it (strIterType x) x t i
def signs (x : Str) : List V := x.cps.toList.map fun c => V.str ⟨#[c]⟩
def SK.has (K : PySem.W.Frag) : SK → Hp → List V → Prop
  | .lst a, H, ys => SqL K H a ys
  | .tup a, H, ys => SqT K H a ys
  | .txt x, _, ys => ys = signs x
theorem SK.obj : ∀ {k : SK} {it : Addr} {i : Nat} {h : Heap}, k.it1 it i h → ∃ o, h.get? it = some o ∧ ∀ v, o.data ≠ .cell v
  | .lst _, _, _, _, ⟨o, e, _, d⟩ => ⟨o, e, fun v z => by rw [d] at z; cases z⟩
  | .tup _, _, _, _, ⟨o, e, _, d⟩ => ⟨o, e, fun v z => by rw [d] at z; cases z⟩
  | .txt _, _, _, _, ⟨t, o, e, _, d⟩ => ⟨o, e, fun v z => by rw [d] at z; cases z⟩
theorem SK.at1 : ∀ {k : SK} {it : Addr} {i : Nat} {h h' : Heap}, k.it1 it i h → (∀ o, h.get? it = some o → h'.get? it = some o) → k.it1 it i h'
  | .lst _, _, _, _, _, s, k => Heap.IsListIter.at s k
  | .tup _, _, _, _, _, s, k => Heap.IsTupleIter.at s k
  | .txt _, _, _, _, _, ⟨t, o, e, r⟩, k => ⟨t, o, k o e, r⟩
section
variable {X : Cx} {pins : List (Addr × Obj)} {σ : L2.St} {H : Hp} {s : Shared}
theorem fp_ne_k {a b : Addr} {o : Obj} (I : Inv X pins σ H s) (f : FpOk X pins H b) (e : X.K.lookup a = some o) : a ≠ b := by
  rintro rfl
  have e1 := I.mod.kin a o e
  obtain ⟨e2, _⟩ := I.ok.bs a o e1
  rcases f.2.2.2.1 with z | z
  · exact I.ok.noex a o e1 z
  · exact absurd (Heap.lt_size e2) (Nat.not_lt.mpr z)
theorem fp_ne_h {a b : Addr} {u : HO} (f : FpOk X pins H b) (e : H a = some u) : a ≠ b := by
  rintro rfl
  rw [f.1] at e; cases e
/-- what the iterator of a source draws, as it stands now -/
theorem SK.draws {A : Around} (I : Inv X pins σ H s) (hh : A.handled = none) {k : SK} {it : Addr} {i : Nat} {ys : List V} (st : k.it1 it i s.heap) (hs : k.has X.K H ys) (ft : FpOk X pins H it) :
    ∃ (n : Nat) (P : Nat → Value → Prop) (St : Nat → Heap → Prop) (fp : List Addr), Draws X.prog X.w A it fp n P St ∧ St i s.heap ∧ it ∈ fp ∧ n = ys.length ∧ (∀ b, FpOk X pins H b → b ≠ it → b ∉ fp) ∧
      (∀ i v, P i v → ∃ x, ys[i]? = some x ∧ RelV x v) ∧ ∀ i h, St i h → k.it1 it i h := by
  cases k with
  | lst a =>
    obtain ⟨its, rv, p, hz⟩ := I.list hs
    have ne : ∀ b, FpOk X pins H b → a ≠ b := fun b f => by
      rcases hs with (e | ⟨o, e⟩) | ⟨o, _, _, e, _⟩
      · exact fp_ne_h f e
      · exact fp_ne_h f e
      · exact fp_ne_k I f e
    refine ⟨_, _, _, _, Draws.list hh it a (ne it ft) its.toArray, ⟨st, p.isList⟩, by simp, by rw [List.size_toArray]; exact rv.length.symm, fun b f hb hm => ?_, fun i v hv => ?_, fun i h st => st.1⟩
    · rcases List.mem_cons.mp hm with z | z
      · exact hb z
      · have z : b = a := by simpa using z
        exact ne b f z.symm
    · have hv : its[i]? = some v := by simpa using hv
      cases q : ys[i]? with
      | none => rw [rv.none_of q] at hv; cases hv
      | some x =>
        obtain ⟨u, hu, ru⟩ := rv.get q
        rw [hu] at hv; cases hv
        exact ⟨x, rfl, ru⟩
  | tup a =>
    obtain ⟨its, rv, p, hz⟩ := I.tuple hs
    have ne : ∀ b, FpOk X pins H b → a ≠ b := fun b f => by
      rcases hs with (e | ⟨o, e⟩) | ⟨o, _, _, e, _⟩
      · exact fp_ne_h f e
      · exact fp_ne_h f e
      · exact fp_ne_k I f e
    refine ⟨_, _, _, _, Draws.tuple hh it a (ne it ft) its.toArray, ⟨st, p⟩, by simp, by rw [List.size_toArray]; exact rv.length.symm, fun b f hb hm => ?_, fun i v hv => ?_, fun i h st => st.1⟩
    · rcases List.mem_cons.mp hm with z | z
      · exact hb z
      · have z : b = a := by simpa using z
        exact ne b f z.symm
    · have hv : its[i]? = some v := by simpa using hv
      cases q : ys[i]? with
      | none => rw [rv.none_of q] at hv; cases hv
      | some x =>
        obtain ⟨u, hu, ru⟩ := rv.get q
        rw [hu] at hv; cases hv
        exact ⟨x, rfl, ru⟩
  | txt x =>
    obtain ⟨t, st⟩ := st
    have e : ys = signs x := hs
    subst e
    refine ⟨_, _, _, _, Draws.text hh it x t, st, by simp, by simp [signs], fun b f hb hm => hb (by simpa using hm), fun i v ⟨c, u, hc, hv⟩ => ⟨.str ⟨#[c]⟩, ?_, by rw [hv]; exact ⟨u, rfl⟩⟩, fun i h st => ⟨t, st⟩⟩
    simp [signs, hc]
/-- how the iterator of a source begins -/
theorem SK.begins (I : Inv X pins σ H s) {k : SK} {ys : List V} {u : Value} (hs : k.has X.K H ys) (r : RelV k.v u) :
    ∃ (o : Obj) (Hh : Heap → Prop), Begins u o Hh ∧ Hh s.heap ∧ ∀ it h, h.get? it = some o → k.it1 it 0 h := by
  cases k with
  | lst a =>
    obtain ⟨its, rv, p, hz⟩ := I.list hs
    cases r
    exact ⟨_, _, begins_list a its.toArray, p.isList, fun it h e => ⟨_, e, rfl, rfl⟩⟩
  | tup a =>
    obtain ⟨its, rv, p, hz⟩ := I.tuple hs
    cases r
    exact ⟨_, _, begins_tuple a its.toArray, p, fun it h e => ⟨_, e, rfl, rfl⟩⟩
  | txt x =>
    obtain ⟨t, rfl⟩ := r
    exact ⟨_, _, begins_text x t, trivial, fun it h e => ⟨t, _, e, rfl, rfl⟩⟩
end

/-! ### enumerate(source), zip(source, source) -/
def ItE (K : PySem.W.Frag) (k : SK) : It :=
  ⟨fun i H => ∃ ys : List V, k.has K H ys ∧ i < ys.length, fun i H v H' => ∃ T x, v = .ref T ∧ H T = none ∧ H' = upd H T (.tup [.int (i : Nat), x]) ∧ ∀ ys, k.has K H ys → ys[i]? = some x, fun i H => ∃ ys : List V, k.has K H ys ∧ i = ys.length⟩
def ItZ (K : PySem.W.Frag) (k l : SK) : It :=
  ⟨fun i H => ∃ ys zs : List V, k.has K H ys ∧ l.has K H zs ∧ i < min ys.length zs.length, fun i H v H' => ∃ T x y, v = .ref T ∧ H T = none ∧ H' = upd H T (.tup [x, y]) ∧ (∀ ys, k.has K H ys → ys[i]? = some x) ∧ ∀ ys, l.has K H ys → ys[i]? = some y,
    fun i H => ∃ ys zs : List V, k.has K H ys ∧ l.has K H zs ∧ i = min ys.length zs.length⟩
theorem SK.inj {X : Cx} {pins : List (Addr × Obj)} {σ : L2.St} {H : Hp} {s : Shared} (I : Inv X pins σ H s) : ∀ {k : SK} {ys zs : List V}, k.has X.K H ys → k.has X.K H zs → ys = zs
  | .lst _, _, _, a, b => I.list_inj a b
  | .tup _, _, _, a, b => I.tuple_inj a b
  | .txt _, _, _, a, b => a.trans b.symm
theorem turnE {P : Program} {w : World} {K : PySem.W.Frag} {elts : List Expr} {kk : Nat} {tpos : Pos} (k : SK) (e it : Addr) (hne : e ≠ it) :
    Turn P w K (.Tuple elts kk tpos) (ItE K k) [e, it] e (fun i h => (∃ old, IsEnum h e it ((0 : Int) + (i : Int)) old) ∧ k.it1 it i h) where
  mem := by simp
  obj := fun i h st b hb => by
    obtain ⟨⟨old, he⟩, hi⟩ := st
    rcases List.mem_cons.mp hb with z | z
    · rw [z]; exact ⟨_, he, fun v q => nomatch q⟩
    · have z : b = it := by simpa using z
      rw [z]; exact SK.obj hi
  keep := fun i h h' st kp => let ⟨⟨old, he⟩, hi⟩ := st; ⟨⟨old, kp e (by simp) _ he⟩, SK.at1 hi fun o q => kp it (by simp) o q⟩
  item := by
    intro X hP hw hK hc i pins s σ H E I hf st hg
    subst hP hw hK
    obtain ⟨⟨old, he⟩, hi⟩ := id st
    obtain ⟨ys, hs, hlt⟩ := hg
    have hh : X.A.in1.handled = none := I.ok.hd hc
    obtain ⟨n, P, St, fp, D, st1, mem, en, nf, hP, hS⟩ := SK.draws (A := X.A.in1) I hh hi hs (hf it (by simp))
    have W := GoesN.enumFrom (elts := elts) (x1 := kk) (pos := tpos) 0 D e hne (nf e (hf e (by simp)) hne) mem
    refine wpAny_mono (W.goes i s (fun v s2 => ∃ x H', Inv X pins σ H' s2 ∧ RelV x v ∧ (ItE X.K k).yld i H x H' ∧ ((∃ old, IsEnum s2.heap e it ((0 : Int) + ((i + 1 : Nat) : Int)) old) ∧ k.it1 it (i + 1) s2.heap) ∧ ∀ b ∈ [e, it], H' b = none) E (by omega) ⟨⟨old, he⟩, st1⟩ fun v h' tk hY st' hk htk => ?_) (fun r s1 hq => hq) fun _ _ z => z
    obtain ⟨T, t, x, rfl, hT, hx, hTup⟩ := hY
    obtain ⟨xv, hxv, rx⟩ := hP i x hx
    have I1 : Inv X pins σ (upd H T (.tup [.int (i : Nat), xv])) { s with heap := h', toks := tk } :=
      I.turnedNew (ch := [e, it]) (fun b o hb q => hk b o hb q) hf hT ⟨by show 2 ≤ sizeLine; decide, [.int ((0 : Int) + (i : Int)) t, x], .cons ⟨t, by rw [Int.zero_add]⟩ (.cons rx .nil), hTup⟩
    refine ⟨.ref T, _, I1, rfl, ⟨T, xv, rfl, I.hok.fresh hT, rfl, fun zs hz => by rw [SK.inj I hz hs]; exact hxv⟩, ⟨st'.1, hS _ _ st'.2⟩, fun b hb => ?_⟩
    have hb' : b < s.heap.objs.size := by
      obtain ⟨o, ho, _⟩ : ∃ o, s.heap.get? b = some o ∧ ∀ v, o.data ≠ .cell v := by
        rcases List.mem_cons.mp hb with z | z
        · rw [z]; exact ⟨_, he, fun v q => nomatch q⟩
        · have z : b = it := by simpa using z
          rw [z]; exact SK.obj hi
      exact Heap.lt_size ho
    rw [upd_ne (Nat.ne_of_lt (Nat.lt_of_lt_of_le hb' hT))]
    exact (hf b hb).1
  done := by
    intro X hP hw hK hc i pins s σ H E I hf st hg
    subst hP hw hK
    obtain ⟨⟨old, he⟩, hi⟩ := id st
    obtain ⟨ys, hs, rfl⟩ := hg
    have hh : X.A.in1.handled = none := I.ok.hd hc
    obtain ⟨n, P, St, fp, D, st1, mem, rfl, nf, hP, hS⟩ := SK.draws (A := X.A.in1) I hh hi hs (hf it (by simp))
    have W := GoesN.enumFrom (elts := elts) (x1 := kk) (pos := tpos) 0 D e hne (nf e (hf e (by simp)) hne) mem
    exact W.stops s (fun s1 => Inv X pins σ H s1) E ⟨⟨old, he⟩, st1⟩ fun h' tk hk htk => I.turnedL (ch := [e, it]) (fun b o hb q => hk b o hb q) hf
  self := fun A i s Q E st h => let ⟨⟨_, he⟩, _⟩ := st; wpAny_pyIter_enum he h
structure Ap5 (z TI TO i1 i2 : Addr) : Prop where
  TIz : TI ≠ z
  TOz : TO ≠ z
  TITO : TI ≠ TO
  TIi1 : TI ≠ i1
  TIi2 : TI ≠ i2
  zi1 : z ≠ i1
  zi2 : z ≠ i2
  TOi1 : TO ≠ i1
  TOi2 : TO ≠ i2
  ii : i1 ≠ i2
theorem turnZ {P : Program} {w : World} {K : PySem.W.Frag} {elts : List Expr} {kk : Nat} {tpos : Pos} (k l : SK) (z TI TO i1 i2 : Addr) (ap : Ap5 z TI TO i1 i2) :
    Turn P w K (.Tuple elts kk tpos) (ItZ K k l) [z, TI, TO, i1, i2] z (fun i h => IsZip h z TI TO .none ∧ IsTupOf2 h TI (.ref i1) (.ref i2) ∧ (∃ a1 a2, IsTupOf2 h TO a1 a2) ∧ k.it1 i1 i h ∧ l.it1 i2 i h) where
  mem := by simp
  obj := fun i h st b hb => by
    obtain ⟨hz, hTI, ⟨x, y, hTO⟩, h1, h2⟩ := st
    have e' : b = z ∨ b = TI ∨ b = TO ∨ b = i1 ∨ b = i2 := by simpa using hb
    rcases e' with q | q | q | q | q
    · rw [q]; exact ⟨_, hz, fun v q => nomatch q⟩
    · rw [q]; exact ⟨_, hTI, fun v q => nomatch q⟩
    · rw [q]; exact ⟨_, hTO, fun v q => nomatch q⟩
    · rw [q]; exact SK.obj h1
    · rw [q]; exact SK.obj h2
  keep := fun i h h' st kp => by
    obtain ⟨hz, hTI, ⟨x, y, hTO⟩, h1, h2⟩ := st
    exact ⟨kp z (by simp) _ hz, kp TI (by simp) _ hTI, ⟨x, y, kp TO (by simp) _ hTO⟩, SK.at1 h1 fun o q => kp i1 (by simp) o q, SK.at1 h2 fun o q => kp i2 (by simp) o q⟩
  item := by
    intro X hP hw hK hc i pins s σ H E I hf st hg
    subst hP hw hK
    obtain ⟨hz, hTI, hTO, h1, h2⟩ := id st
    obtain ⟨ys, zs, hs1, hs2, hlt⟩ := hg
    have hh : X.A.in1.handled = none := I.ok.hd hc
    obtain ⟨n1, P1, St1, fp1, D1, st1, mem1, en1, nf1, hP1, hS1⟩ := SK.draws (A := X.A.in1) I hh h1 hs1 (hf i1 (by simp))
    obtain ⟨n2, P2, St2, fp2, D2, st2, mem2, en2, nf2, hP2, hS2⟩ := SK.draws (A := X.A.in1) I hh h2 hs2 (hf i2 (by simp))
    have S : ZipSep2 z TI TO i1 i2 fp1 fp2 := ⟨ap.TIz, ap.TOz, ap.TITO, ap.TIi1, mem1, nf1 z (hf z (by simp)) ap.zi1, nf1 TO (hf TO (by simp)) ap.TOi1, ap.TIi2, mem2, nf2 z (hf z (by simp)) ap.zi2, nf2 TO (hf TO (by simp)) ap.TOi2, nf2 i1 (hf i1 (by simp)) ap.ii, nf1 i2 (hf i2 (by simp)) ap.ii.symm⟩
    have W := GoesN.zip2 (elts := elts) (x1 := kk) (pos := tpos) S D1 D2
    refine wpAny_mono (W.goes i s (fun v s2 => ∃ x H', Inv X pins σ H' s2 ∧ RelV x v ∧ (ItZ X.K k l).yld i H x H' ∧ (IsZip s2.heap z TI TO .none ∧ IsTupOf2 s2.heap TI (.ref i1) (.ref i2) ∧ (∃ a1 a2, IsTupOf2 s2.heap TO a1 a2) ∧ k.it1 i1 (i + 1) s2.heap ∧ l.it1 i2 (i + 1) s2.heap) ∧ ∀ b ∈ [z, TI, TO, i1, i2], H' b = none) E (by omega) ⟨hz, hTI, hTO, st1, st2⟩ fun v h' tk hY st' hk htk => ?_) (fun r s1 hq => hq) fun _ _ z => z
    obtain ⟨T, x, y, rfl, hT, hx, hy, hTup⟩ := hY
    obtain ⟨xv, hxv, rx⟩ := hP1 i x hx
    obtain ⟨yv, hyv, ry⟩ := hP2 i y hy
    have sub : ∀ b ∈ [z, TO, i1, i2], b ∈ [z, TI, TO, i1, i2] := fun b hb => by
      have e' : b = z ∨ b = TO ∨ b = i1 ∨ b = i2 := by simpa using hb
      rcases e' with q | q | q | q <;> simp [q]
    have I1 : Inv X pins σ (upd H T (.tup [xv, yv])) { s with heap := h', toks := tk } :=
      I.turnedNew (ch := [z, TI, TO, i1, i2]) (fun b o hb q => hk b o (fun z => hb (sub b z)) q) hf hT ⟨by show 2 ≤ sizeLine; decide, [x, y], .cons rx (.cons ry .nil), hTup⟩
    refine ⟨.ref T, _, I1, rfl, ⟨T, xv, yv, rfl, I.hok.fresh hT, rfl, fun zs hz => by rw [SK.inj I hz hs1]; exact hxv, fun zs hz => by rw [SK.inj I hz hs2]; exact hyv⟩, ⟨st'.1, st'.2.1, st'.2.2.1, hS1 _ _ st'.2.2.2.1, hS2 _ _ st'.2.2.2.2⟩, fun b hb => ?_⟩
    have hb' : b < s.heap.objs.size := by
      obtain ⟨o, ho⟩ : ∃ o, s.heap.get? b = some o := by
        have e' : b = z ∨ b = TI ∨ b = TO ∨ b = i1 ∨ b = i2 := by simpa using hb
        rcases e' with q | q | q | q | q
        · rw [q]; exact ⟨_, hz⟩
        · rw [q]; exact ⟨_, hTI⟩
        · obtain ⟨_, _, q2⟩ := hTO
          rw [q]; exact ⟨_, q2⟩
        · rw [q]; obtain ⟨o, e, _⟩ := SK.obj h1; exact ⟨o, e⟩
        · rw [q]; obtain ⟨o, e, _⟩ := SK.obj h2; exact ⟨o, e⟩
      exact Heap.lt_size ho
    rw [upd_ne (Nat.ne_of_lt (Nat.lt_of_lt_of_le hb' hT))]
    exact (hf b hb).1
  done := by
    intro X hP hw hK hc i pins s σ H E I hf st hg
    subst hP hw hK
    obtain ⟨hz, hTI, hTO, h1, h2⟩ := id st
    obtain ⟨ys, zs, hs1, hs2, rfl⟩ := hg
    have hh : X.A.in1.handled = none := I.ok.hd hc
    obtain ⟨n1, P1, St1, fp1, D1, st1, mem1, rfl, nf1, hP1, hS1⟩ := SK.draws (A := X.A.in1) I hh h1 hs1 (hf i1 (by simp))
    obtain ⟨n2, P2, St2, fp2, D2, st2, mem2, rfl, nf2, hP2, hS2⟩ := SK.draws (A := X.A.in1) I hh h2 hs2 (hf i2 (by simp))
    have S : ZipSep2 z TI TO i1 i2 fp1 fp2 := ⟨ap.TIz, ap.TOz, ap.TITO, ap.TIi1, mem1, nf1 z (hf z (by simp)) ap.zi1, nf1 TO (hf TO (by simp)) ap.TOi1, ap.TIi2, mem2, nf2 z (hf z (by simp)) ap.zi2, nf2 TO (hf TO (by simp)) ap.TOi2, nf2 i1 (hf i1 (by simp)) ap.ii, nf1 i2 (hf i2 (by simp)) ap.ii.symm⟩
    have W := GoesN.zip2 (elts := elts) (x1 := kk) (pos := tpos) S D1 D2
    have sub : ∀ b ∈ [z, TO, i1, i2], b ∈ [z, TI, TO, i1, i2] := fun b hb => by
      have e' : b = z ∨ b = TO ∨ b = i1 ∨ b = i2 := by simpa using hb
      rcases e' with q | q | q | q <;> simp [q]
    exact W.stops s (fun s1 => Inv X pins σ H s1) E ⟨hz, hTI, hTO, st1, st2⟩ fun h' tk hk htk => I.turnedL (ch := [z, TI, TO, i1, i2]) (fun b o hb q => hk b o (fun z => hb (sub b z)) q) hf
  self := fun A i s Q E st h => wpAny_pyIter_zip st.1 h
end Fy

set_option maxHeartbeats 2000000
namespace PySem
open Sem (wp)
set_option maxHeartbeats 1000000 in
theorem fy_meets_enum1 {v : Value} {o : Obj} {H : Heap → Prop} (B : Begins v o H) :
    Meets (Builtin.«enumerate.__new__» ⟨[.type "enumerate", v], []⟩) (fun _ R s => H s.heap ∧
      R (.ok (.ret (.ref (s.heap.push o).objs.size))) { s with heap := (s.heap.push o).push { cls := .type "enumerate", data := .fields #[.none, .bool false, .ref s.heap.objs.size, rawInt 0, .none, .none] } }) :=
  .of_wp fun prog w A R s h => by
    obtain ⟨hp, g, d, tk, os⟩ := s; obtain ⟨h1, h⟩ := h
    have hsub := sub_enumerate
    have q1 : ∀ {A' : Around} {E : Value → Shared → Prop} {Q : Value → Shared → Prop}, Q (.ref hp.objs.size) ⟨hp.push o, g, d, tk, os⟩ → wpAny (model prog w) A' (pyIter v) Q E ⟨hp, g, d, tk, os⟩ :=
      fun q => B.iter prog w _ _ ⟨hp, g, d, tk, os⟩ _ h1 q
    wp_walk using q1
    refine wpAny_stack_any fun st => wpAny_pure ?_
    split
    · rename_i c _ _ _ _ _
      cases (c == Value.type "enumerate")
      · wp_walk using q1
        exact ⟨_, rfl, h⟩
      · wp_walk using q1
        exact ⟨_, rfl, h⟩
    · wp_walk using q1
      exact ⟨_, rfl, h⟩
theorem fy_enum1 {prog : Program} {w : World} {A : Around} {E : Value → Shared → Prop} {s : Shared} {v : Value} {o : Obj} {H : Heap → Prop} {Q : Value → Shared → Prop} (B : Begins v o H) (h1 : H s.heap)
    (h : ∀ h', IsEnum h' (s.heap.objs.size + 1) s.heap.objs.size 0 .none → h'.get? s.heap.objs.size = some o → h'.objs.size = s.heap.objs.size + 2 →
      (∀ b o, s.heap.get? b = some o → h'.get? b = some o) → Q (.ref (s.heap.objs.size + 1)) { s with heap := h' }) :
    wpAny (model prog w) A (call (.type "enumerate") [v]) Q E s := by
  refine callType_new F.called_enumerate (by decide) (F.typeCall_enumerate_1 _) (F.newCall_enumerate_1 _) (fun obj => F.args_object_init_2 obj _) F.entry_enumerate_new
    (fy_meets_enum1 B) ⟨h1, ?_⟩
  have hz : (s.heap.push o).objs.size = s.heap.objs.size + 1 := Heap.size_push ..
  show _ ∧ _
  rw [hz]
  have he : IsEnum ((s.heap.push o).push { cls := .type "enumerate", data := .fields #[.none, .bool false, .ref s.heap.objs.size, rawInt 0, .none, .none] }) (s.heap.objs.size + 1) s.heap.objs.size 0 .none := by
    have := Heap.get?_push_size (s.heap.push o) (o := { cls := .type "enumerate", data := .fields #[.none, .bool false, .ref s.heap.objs.size, rawInt 0, .none, .none] }) rfl
    rw [hz] at this; exact this
  refine ⟨⟨_, he, rfl⟩, h _ he (Heap.get?_push_of_some _ (Heap.get?_push_size _ B.free)) (by rw [Heap.size_push, hz]) fun b o x => Heap.get?_push_of_some _ (Heap.get?_push_of_some _ x)⟩
end PySem
namespace Fy
open PySem PySem.Spec PyProof.Rows L2
theorem strIt_or (x : Str) : strIterType x = "str_ascii_iterator" ∨ strIterType x = "str_iterator" := by
  unfold strIterType; split <;> simp
section
variable {X : Cx}
/-- a source among the values -/
def iSeq (K : PySem.W.Frag) (te : TE) : TI := fun σ H R => te σ H fun x H1 => ∃ k ys, x = SK.v k ∧ k.has K H1 ys ∧
  match k with
  | .lst a => R (Itl K a) H1
  | .tup a => R (Itt K a) H1
  | .txt z => R (Its z) H1
theorem pi_seq {tg e : Expr} {te : TE} (he : PE X e te) : PI X tg e (iSeq X.K te) := by
  refine ⟨fun pins s σ H R I h => ?_⟩
  refine thn (he.run pins s σ H _ I h) fun v s1 ⟨x, H1, I1, r1, k, ys, ex, hs, q⟩ => ?_
  subst ex
  -- each kind by the rule of its own, over an expression that gives this very value
  cases k with
  | lst a =>
    cases r1
    obtain ⟨its, rv, p, hz⟩ := I1.list hs
    refine wpAny_pyIter_list p.isList ?_
    refine ⟨s1.heap.objs.size, [s1.heap.objs.size], _, _, H1, rfl, I1.kept (t' := s1.toks) fun b o e => Heap.get?_push_of_some _ e, turn_list a _, ⟨_, Heap.get?_push_size _ rfl, rfl, rfl⟩, fun b hb => ?_, q⟩
    have e : b = s1.heap.objs.size := by simpa using hb
    subst e
    exact I1.fpOk (Nat.le_refl _) (I1.hok.fresh (Nat.le_refl _))
  | tup a =>
    cases r1
    obtain ⟨its, rv, p, hz⟩ := I1.tuple hs
    refine wpAny_pyIter_tuple (show s1.heap.IsTuple a its.toArray from p) ?_
    refine ⟨s1.heap.objs.size, [s1.heap.objs.size], _, _, H1, rfl, I1.kept (t' := s1.toks) fun b o e => Heap.get?_push_of_some _ e, turn_tuple a _, ⟨_, Heap.get?_push_size _ rfl, rfl, rfl⟩, fun b hb => ?_, q⟩
    have e : b = s1.heap.objs.size := by simpa using hb
    subst e
    exact I1.fpOk (Nat.le_refl _) (I1.hok.fresh (Nat.le_refl _))
  | txt z =>
    obtain ⟨t, rfl⟩ := r1
    have pc : PE X (.Constant (.str z) 0 ⟨0, 0, 0, 0⟩) (tC (.str z)) := pe_str
    refine wpAny_pyIter_strU ?_
    refine ⟨s1.heap.objs.size, [s1.heap.objs.size], _, _, H1, rfl, I1.kept (t' := s1.toks) fun b o e => Heap.get?_push_of_some _ e, turn_str _ z t _ (strIt_or z), ⟨_, Heap.get?_push_size _ rfl, rfl, rfl⟩, fun b hb => ?_, q⟩
    have e : b = s1.heap.objs.size := by simpa using hb
    subst e
    exact I1.fpOk (Nat.le_refl _) (I1.hok.fresh (Nat.le_refl _))
def iEn8 (K : PySem.W.Frag) (ta : TA) : TI := fun σ H R => ta σ H fun vs H1 => ∃ k ys, vs = [SK.v k] ∧ k.has K H1 ys ∧ R (ItE K k) H1
theorem pi_en8 {e : Expr} {ta : TA} {p pos tpos : Pos} {elts : List Expr} {kk : Nat} (hm : X.mg "enumerate" = none) (ha : PA X [e] ta) (hg : Gl X "enumerate" := by rfl) (hs : starEach [e] X.env = [(false, eval e X.env)] := by rfl) :
    PI X (.Tuple elts kk tpos) (.Call (.Name "enumerate" p) [e] [] pos) (iEn8 X.K ta) := by
  refine ⟨fun pins s σ H R I h => ?_⟩
  refine Call_ (ld_blt I hg hm boot_enumerate (PyProof.Rows.callWith_type1 (thn (ha.run pos pins s σ H _ I h) fun us s1 ⟨vs, H1, I1, r1, q1⟩ => ?_) hs rfl))
  obtain ⟨k, ys, ex, hk, q⟩ := q1
  subst ex
  obtain ⟨u, rfl, ru⟩ := vals1 r1
  obtain ⟨o, Hh, B, hH, h0⟩ := SK.begins I1 hk ru
  refine fy_enum1 B hH fun h' he hit hsz hk => wpAny_pyIter_enum he ?_
  have I2 : Inv X pins σ H1 { s1 with heap := h' } := I1.kept (t' := s1.toks) hk
  refine ⟨s1.heap.objs.size + 1, [s1.heap.objs.size + 1, s1.heap.objs.size], _, _, H1, rfl, I2, turnE k (s1.heap.objs.size + 1) s1.heap.objs.size (Nat.succ_ne_self _), ⟨⟨.none, by simpa using he⟩, h0 _ _ hit⟩, fun b hb => ?_, q⟩
  have e' : b = s1.heap.objs.size + 1 ∨ b = s1.heap.objs.size := by simpa using hb
  have hle : s1.heap.objs.size ≤ b := by
    rcases e' with z | z
    · rw [z]; exact Nat.le_add_right _ _
    · rw [z]; exact Nat.le_refl _
  exact I1.fpOk hle (I1.hok.fresh hle)
def iZp8 (K : PySem.W.Frag) (ta : TA) : TI := fun σ H R => ta σ H fun vs H1 => ∃ k l ys zs, vs = [SK.v k, SK.v l] ∧ k.has K H1 ys ∧ l.has K H1 zs ∧ R (ItZ K k l) H1
theorem ap5 (N : Nat) : Ap5 (N + 4) (N + 2) (N + 3) N (N + 1) :=
  ⟨show (N + 2 : Nat) ≠ N + 4 by omega, show (N + 3 : Nat) ≠ N + 4 by omega, show (N + 2 : Nat) ≠ N + 3 by omega, show (N + 2 : Nat) ≠ N by omega, show (N + 2 : Nat) ≠ N + 1 by omega, show (N + 4 : Nat) ≠ N by omega, show (N + 4 : Nat) ≠ N + 1 by omega, show (N + 3 : Nat) ≠ N by omega, show (N + 3 : Nat) ≠ N + 1 by omega, show (N : Nat) ≠ N + 1 by omega⟩
theorem pi_zp8 {e e2 : Expr} {ta : TA} {p pos tpos : Pos} {elts : List Expr} {kk : Nat} (hm : X.mg "zip" = none) (ha : PA X [e, e2] ta) (hg : Gl X "zip" := by rfl)
    (hs : starEach [e, e2] X.env = (false, eval e X.env) :: starEach [e2] X.env := by rfl) (hpl : (backTo pos (starEach [e2] X.env)).any (·.1) = false := by rfl) :
    PI X (.Tuple elts kk tpos) (.Call (.Name "zip" p) [e, e2] [] pos) (iZp8 X.K ta) := by
  refine ⟨fun pins s σ H R I h => ?_⟩
  refine Call_ (ld_blt I hg hm PyProof.Rows.boot_zip (PyProof.Rows.callWith_type1 (thn (ha.run pos pins s σ H _ I h) fun us s1 ⟨vs, H1, I1, r1, q1⟩ => ?_) hs hpl))
  obtain ⟨k, l, ys, zs, ex, h1, h2, q⟩ := q1
  subst ex
  obtain ⟨u1, u2, rfl, ru1, ru2⟩ := vals2 r1
  obtain ⟨o1, H1h, B1, hH1, s1s⟩ := SK.begins I1 h1 ru1
  obtain ⟨o2, H2h, B2, hH2, s2s⟩ := SK.begins I1 h2 ru2
  refine zip_begins2 B1 B2 hH1 hH2 fun h' hz hTI hTO g1 g2 hsz hk => wpAny_pyIter_zip hz ?_
  have I2 : Inv X pins σ H1 { s1 with heap := h' } := I1.kept (t' := s1.toks) hk
  refine ⟨s1.heap.objs.size + 4, [s1.heap.objs.size + 4, s1.heap.objs.size + 2, s1.heap.objs.size + 3, s1.heap.objs.size, s1.heap.objs.size + 1], _, _, H1, rfl, I2, turnZ k l _ _ _ _ _ (ap5 _), ⟨hz, hTI, ⟨_, _, hTO⟩, s1s _ _ g1, s2s _ _ g2⟩, fun c hcm => ?_, q⟩
  have e' : c = s1.heap.objs.size + 4 ∨ c = s1.heap.objs.size + 2 ∨ c = s1.heap.objs.size + 3 ∨ c = s1.heap.objs.size ∨ c = s1.heap.objs.size + 1 := by simpa using hcm
  have hle : s1.heap.objs.size ≤ c := by
    rcases e' with z | z | z | z | z
    · rw [z]; exact Nat.le_add_right _ _
    · rw [z]; exact Nat.le_add_right _ _
    · rw [z]; exact Nat.le_add_right _ _
    · rw [z]; exact Nat.le_refl _
    · rw [z]; exact Nat.le_add_right _ _
  exact I1.fpOk hle (I1.hok.fresh hle)

/-! ### what is walked, as a list of data -/
/-- what is done to the heap (v: nothing of what stood) -/
structure Mv (v : Bool) (m m' : List Addr) (ow ow' : Addr → Prop) (H H' : Hp) : Prop where
  mo : Mo m m' ow ow' [] H H'
  kp : v = true → ∀ a o, H a = some o → H' a = some o
theorem Mv.refl {v : Bool} {m : List Addr} {ow : Addr → Prop} {H : Hp} : Mv v m m ow ow H H := ⟨⟨List.prefix_refl _, fun _ _ e _ => e, fun _ _ h => h⟩, fun _ _ _ e => e⟩
theorem Fr.mv {v : Bool} {H H' : Hp} {w w' : Wd} (F : Fr v H w H' w') : Mv v w.m w'.m w.ow w'.ow H H' := ⟨F.mo, fun z => (F.pure z).2⟩
/-- through what is done to the heap (v: nothing of what stood), the walk goes over these items -/
def ItOk (K : PySem.W.Frag) (mg : Str → Option Value) (v : Bool) (J : It) (ds : List D) (H0 : Hp) (w0 : Wd) : Prop :=
  ∀ (H : Hp) (m : List Addr) (ow : Addr → Prop) (i : Nat), Mv v w0.m m w0.ow ow H0 H → (∀ a, ow a → H a ≠ none) →
    (∀ d, ds[i]? = some d → J.go i H ∧ ∀ x H', J.yld i H x H' → (∀ b o, H b = some o → H' b = some o) ∧ DRep K mg m ow H' d x) ∧ (i = ds.length → J.stop i H)
def RdI (K : PySem.W.Frag) (mg : Str → Option Value) (W : WX) (v p : Bool) (m : Q8 → Out (List D)) : TI := fun σ H R => ∃ q w, Rp K mg q σ H w ∧ Ct K mg W p (fun w' H' ds (J : It) => ItOk K mg v J ds H' w') m q w σ H R
abbrev PIX (X : Cx) (W : WX) (v p : Bool) (tg iter : Expr) (m : Q8 → Out (List D)) : Prop := PI X tg iter (RdI X.K X.mg W v p m)
theorem piW {tg iter : Expr} {t t' : TI} (h : PI X tg iter t) (k : ∀ σ H Q, t' σ H Q → t σ H Q) : PI X tg iter t' := ⟨fun pins s σ H Q I hq => h.run pins s σ H Q I (k _ _ _ hq)⟩
/-- the items of what may be walked -/
def itemsD : D → Option (List D)
  | .tup xs => some xs
  | .lst xs => some xs
  | .scr xs => some xs
  | .str z => some (z.cps.toList.map fun c => .str ⟨#[c]⟩)
  | _ => none
def isrc (m : M8) : Q8 → Out (List D) := bnd m fun d q => mop (itemsD d) q
def ienum (m : M8) : Q8 → Out (List D) := bnd m fun d q => mop ((itemsD d).map fun xs => (xs.zipIdx).map fun p => .tup [.int (p.2 : Nat), p.1]) q
def izip (m1 m2 : M8) : Q8 → Out (List D) := bnd m1 fun a => bnd m2 fun b q => mop (match itemsD a, itemsD b with
  | some xs, some ys => some ((xs.zip ys).map fun p => .tup [p.1, p.2])
  | _, _ => none) q
section
variable {K : PySem.W.Frag} {mg : Str → Option Value} {m : List Addr} {ow : Addr → Prop} {H : Hp}
theorem signs_reps (K : PySem.W.Frag) (mg : Str → Option Value) (m : List Addr) (ow : Addr → Prop) (H : Hp) : ∀ l : List Nat, DReps K mg m ow H (l.map fun c => .str ⟨#[c]⟩) (l.map fun c => V.str ⟨#[c]⟩)
  | [] => rfl
  | c :: l => ⟨_, _, rfl, rfl, signs_reps K mg m ow H l⟩
/-- the source behind data; it stays through a frame (v: all kept) -/
theorem src_of {v : Bool} {w : Wd} {d : D} {x : V} {xs : List D} (h : VD K mg v w H d x) (e : itemsD d = some xs) : ∃ k, x = SK.v k ∧ ∀ (H' : Hp) (m' : List Addr) (ow' : Addr → Prop), Mv v w.m m' w.ow ow' H H' → ∃ ys, k.has K H' ys ∧ DReps K mg m' ow' H' xs ys := by
  cases d with
  | tup zs =>
    cases e
    have h' : DRep K mg w.m w.ow H (.tup xs) x := by cases v <;> exact h
    obtain ⟨a, vs, rfl, t, r⟩ := h'
    exact ⟨.tup a, rfl, fun H' m' ow' F => ⟨vs, (t.mono F.mo).sq, r.mono F.mo⟩⟩
  | lst zs =>
    cases e
    cases v with
    | false =>
      obtain ⟨a, vs, rfl, t, n, r⟩ := h
      exact ⟨.lst a, rfl, fun H' m' ow' F => ⟨vs, .inl (.inl (F.mo.k a _ t (.inl n))), r.mono F.mo⟩⟩
    | true =>
      obtain ⟨a, vs, rfl, t, r⟩ := h
      exact ⟨.lst a, rfl, fun H' m' ow' F => ⟨vs, .inl (.inl (F.kp rfl _ _ t)), r.mono F.mo⟩⟩
  | scr zs =>
    cases e
    have h' : DRep K mg w.m w.ow H (.scr xs) x := by cases v <;> exact h
    obtain ⟨a, vs, rfl, t, r⟩ := h'
    exact ⟨.lst a, rfl, fun H' m' ow' F => ⟨vs, (t.mono F.mo).sq, r.mono F.mo⟩⟩
  | str z =>
    cases e
    have h' : x = .str z := by cases v <;> exact h
    subst h'
    exact ⟨.txt z, rfl, fun H' m' ow' F => ⟨_, rfl, signs_reps ..⟩⟩
  | _ => cases e
end
variable {W : WX} {v p p1 p2 v1 v2 : Bool} {e e1 e2 : Expr} {m ma mb : M8} {tg : Expr} {pos ps tpos : Pos}
theorem pix_seq (he : PX X W v p e m) : PIX X W v p tg e (isrc m) :=
  piW (pi_seq he) fun σ H Q ⟨q, w, R, c⟩ => ⟨q, w, R, (ct_rt c).bnd fun d q1 x H1 w1 e1 F1 R1 r1 c1 => by
    obtain ⟨xs, ed, c2⟩ := Ct.op (show Ct X.K X.mg W true (fun w' H' ds (J : It) => ItOk X.K X.mg v J ds H' w') (mop (itemsD d)) q1 w1 σ H1 Q from c1)
    obtain ⟨k, rfl, hk⟩ := src_of r1 ed
    obtain ⟨ys, h0, _⟩ := hk H1 _ _ Mv.refl
    refine ⟨k, ys, rfl, h0, ?_⟩
    cases k with
    | lst a =>
      refine c2.fin R1 _ H1 (fun _ _ z => z) fun H m ow i F _ => ?_
      obtain ⟨zs, hz, rz⟩ := hk H m ow F
      refine ⟨fun d hd => ?_, fun hi => ⟨zs, hz, by rw [hi, rz.length]; exact Nat.le_refl _⟩⟩
      obtain ⟨u, hu, ru⟩ := rz.get hd
      refine ⟨⟨zs, u, hz, hu⟩, fun x H' ⟨eh, ex⟩ => ?_⟩
      subst eh
      have := (ex zs hz).symm.trans hu
      cases this
      exact ⟨fun _ _ z => z, ru⟩
    | tup a =>
      refine c2.fin R1 _ H1 (fun _ _ z => z) fun H m ow i F _ => ?_
      obtain ⟨zs, hz, rz⟩ := hk H m ow F
      refine ⟨fun d hd => ?_, fun hi => ⟨zs, hz, by rw [hi, rz.length]; exact Nat.le_refl _⟩⟩
      obtain ⟨u, hu, ru⟩ := rz.get hd
      refine ⟨⟨zs, u, hz, hu⟩, fun x H' ⟨eh, ex⟩ => ?_⟩
      subst eh
      have := (ex zs hz).symm.trans hu
      cases this
      exact ⟨fun _ _ z => z, ru⟩
    | txt z =>
      refine c2.fin R1 _ H1 (fun _ _ z => z) fun H m ow i F _ => ?_
      obtain ⟨zs, hz, rz⟩ := hk H m ow F
      cases (show zs = signs z from hz)
      have hl : xs.length = z.cps.size := by rw [rz.length]; simp [signs]
      refine ⟨fun d hd => ?_, fun hi => show z.cps.size ≤ i by omega⟩
      obtain ⟨u, hu, ru⟩ := rz.get hd
      have hlt : i < z.cps.size := by rw [← hl]; exact (List.getElem?_eq_some_iff.mp hd).1
      refine ⟨hlt, fun x H' ⟨eh, cc, hc, ex⟩ => ?_⟩
      subst eh ex
      have e2 : (signs z)[i]? = some (V.str ⟨#[cc]⟩) := by simp [signs, hc]
      rw [e2] at hu
      cases hu
      exact ⟨fun _ _ z => z, ru⟩⟩
theorem pair_new {m : List Addr} {ow : Addr → Prop} {H : Hp} {T : Addr} {d1 d2 : D} {x y : V} {K : PySem.W.Frag} {mg : Str → Option Value} (th : ∀ a, ow a → H a ≠ none) (hT : H T = none) (h1 : DRep K mg m ow H d1 x) (h2 : DRep K mg m ow H d2 y) : DRep K mg m ow (upd H T (.tup [x, y])) (.tup [d1, d2]) (.ref T) :=
  ⟨T, [x, y], rfl, .inl ⟨upd_same, fun z => th T z hT⟩, x, [y], rfl, h1.mono (l := []) (mo_ext (upd_keep hT)), y, [], rfl, h2.mono (l := []) (mo_ext (upd_keep hT)), rfl⟩
theorem pix_enum {elts : List Expr} {kk : Nat} (hm : X.mg "enumerate" = none) (he : PX X W v p e m) (hg : Gl X "enumerate" := by rfl) (hs : starEach [e] X.env = (false, eval e X.env) :: starEach [] X.env := by rfl) : PIX X W v p (.Tuple elts kk tpos) (.Call (.Name "enumerate" ps) [e] [] pos) (ienum m) :=
  piW (pi_en8 hm (xa_view1 he hs) hg hs) fun σ H Q ⟨q, w, R, c⟩ => ⟨q, w, R, (ct_rt c).bnd fun d q1 x H1 w1 e1 F1 R1 r1 c1 => by
    obtain ⟨x, rfl, r1⟩ := r1
    obtain ⟨ps, ed, c2⟩ := Ct.op (show Ct X.K X.mg W true (fun w' H' ds (J : It) => ItOk X.K X.mg v J ds H' w') (mop ((itemsD d).map fun xs => (xs.zipIdx).map fun p => .tup [.int (p.2 : Nat), p.1])) q1 w1 σ H1 Q from c1)
    obtain ⟨xs, ed', rfl⟩ := Option.map_eq_some_iff.mp ed
    obtain ⟨k, rfl, hk⟩ := src_of r1 ed'
    obtain ⟨ys, h0, _⟩ := hk H1 _ _ Mv.refl
    refine ⟨k, ys, rfl, h0, c2.fin R1 _ H1 (fun _ _ z => z) fun H m ow i F th => ?_⟩
    obtain ⟨zs, hz, rz⟩ := hk H m ow F
    have hl := rz.length
    refine ⟨fun d hd => ?_, fun hi => ⟨zs, hz, by rw [hi]; simpa using hl⟩⟩
    rw [List.getElem?_map, List.getElem?_zipIdx] at hd
    cases hx : xs[i]? with
    | none => rw [hx] at hd; cases hd
    | some d0 =>
      rw [hx] at hd
      cases hd
      obtain ⟨u, hu, ru⟩ := rz.get hx
      refine ⟨⟨zs, hz, (List.getElem?_eq_some_iff.mp hu).1⟩, fun x H' ⟨T, x0, ex, hT, eH, ey⟩ => ?_⟩
      subst ex eH
      have := (ey zs hz).symm.trans hu
      cases this
      exact ⟨upd_keep hT, pair_new th hT (by simp [DRep]) ru⟩⟩
theorem pix_zip {elts : List Expr} {kk : Nat} (hm : X.mg "zip" = none) (h1 : PX X W false p1 e1 ma) (h2 : PX X W false p2 e2 mb) (hg : Gl X "zip" := by rfl)
    (hs : starEach [e1, e2] X.env = (false, eval e1 X.env) :: starEach [e2] X.env := by rfl) (hs2 : starEach [e2] X.env = (false, eval e2 X.env) :: starEach [] X.env := by rfl) (hpl : (backTo pos (starEach [e2] X.env)).any (·.1) = false := by rfl) :
    PIX X W false (p1 && p2) (.Tuple elts kk tpos) (.Call (.Name "zip" ps) [e1, e2] [] pos) (izip ma mb) :=
  piW (pi_zp8 hm (pa_cons h1 (pa_cons h2 pa_nil hs2) hs) hg hs hpl) fun σ H Q ⟨q, w, R, c⟩ => ⟨q, w, R, c.bnd fun d1 q1 x H1 w1 e1 F1 R1 r1 c1 => ⟨q1, w1, R1, (ct_rt c1).bnd fun d2 q2 y H2 w2 e2 F2 R2 r2 c2 => by
    obtain ⟨ps, ed, c3⟩ := Ct.op (show Ct X.K X.mg W true (fun w' H' ds (J : It) => ItOk X.K X.mg false J ds H' w') (mop (match itemsD d1, itemsD d2 with
      | some xs, some ys => some ((xs.zip ys).map fun p => .tup [p.1, p.2])
      | _, _ => none)) q2 w2 σ H2 Q from c2)
    split at ed
    · rename_i xs ys ea eb
      cases ed
      obtain ⟨k, rfl, hk⟩ := src_of (v := false) (DRep.mono F2.mo r1) ea
      obtain ⟨l, rfl, hl⟩ := src_of (v := false) r2 eb
      obtain ⟨us, h0, _⟩ := hk H2 _ _ Mv.refl
      obtain ⟨vs, h0', _⟩ := hl H2 _ _ Mv.refl
      refine ⟨k, l, us, vs, rfl, h0, h0', c3.fin R2 _ H2 (fun _ _ z => z) fun H m ow i F th => ?_⟩
      obtain ⟨zs, hz, rz⟩ := hk H m ow F
      obtain ⟨ts, ht, rt⟩ := hl H m ow F
      have l1 := rz.length
      have l2 := rt.length
      refine ⟨fun d hd => ?_, fun hi => ⟨zs, ts, hz, ht, by rw [hi]; simp [l1, l2]⟩⟩
      rw [List.getElem?_map] at hd
      obtain ⟨pr, hp, rfl⟩ := Option.map_eq_some_iff.mp hd
      obtain ⟨hx, hy⟩ := List.getElem?_zip_eq_some.mp hp
      obtain ⟨u, hu, ru⟩ := rz.get hx
      obtain ⟨u', hu', ru'⟩ := rt.get hy
      have b1 := (List.getElem?_eq_some_iff.mp hu).1
      have b2 := (List.getElem?_eq_some_iff.mp hu').1
      refine ⟨⟨zs, ts, hz, ht, by omega⟩, fun x H' ⟨T, x0, y0, ex, hT, eH, ey, ey'⟩ => ?_⟩
      subst ex eH
      cases (ey zs hz).symm.trans hu
      cases (ey' ts ht).symm.trans hu'
      exact ⟨upd_keep hT, pair_new th hT ru ru'⟩
    · cases ed⟩⟩
/-- range(n), range(a, b) -/
def rng (a b : Int) : List D := (List.range (b - a).toNat).map fun (i : Nat) => .int (a + (i : Int))
def irange1 (m : M8) : Q8 → Out (List D) := bnd m fun d q => match d with
  | .int b => if -(2 ^ 62) ≤ b ∧ b < 2 ^ 62 then .ok (rng 0 b) q else .no
  | _ => .no
def irange2 (ms : Q8 → Out (List D)) : Q8 → Out (List D) := bnd ms fun ds q => match ds with
  | [.int a, .int b] => if -(2 ^ 62) ≤ a ∧ a < 2 ^ 62 ∧ -(2 ^ 62) ≤ b ∧ b < 2 ^ 62 then .ok (rng a b) q else .no
  | _ => .no
theorem rng_ok {K : PySem.W.Frag} {mg : Str → Option Value} {a b : Int} {H : Hp} {w : Wd} : ItOk K mg v (Itr a (b - a).toNat) (rng a b) H w := fun H m ow i F th => by
  refine ⟨fun d hd => ?_, fun hi => ?_⟩
  · unfold rng at hd
    rw [List.getElem?_map] at hd
    obtain ⟨j, hj, rfl⟩ := Option.map_eq_some_iff.mp hd
    obtain ⟨hlt, ej⟩ := List.getElem?_eq_some_iff.mp hj
    rw [List.getElem_range] at ej
    subst ej
    rw [List.length_range] at hlt
    refine ⟨hlt, fun x H' ⟨e1, e2⟩ => ?_⟩
    subst e1 e2
    exact ⟨fun _ _ z => z, rfl⟩
  · show (b - a).toNat ≤ i
    rw [hi]; simp [rng]
theorem pix_range1 (hm : X.mg "range" = none) (he : PX X W v p e m) (hg : Gl X "range" := by rfl) (hs : starEach [e] X.env = (false, eval e X.env) :: starEach [] X.env := by rfl) : PIX X W v p tg (.Call (.Name "range" ps) [e] [] pos) (irange1 m) :=
  piW (pi_range1 hg hm (xa_view1 he hs) hs) fun σ H Q ⟨q, w, R, c⟩ => ⟨q, w, R, (ct_rt c).bnd fun d q1 x H1 w1 e1 F1 R1 r1 c1 => by
    obtain ⟨x, rfl, r1⟩ := r1
    cases d <;> first | exact c1.elim | skip
    rename_i b
    unfold Ct at c1
    dsimp only at c1
    split at c1 <;> rename_i he <;> split at he <;> first | (cases he; done) | exact c1.elim | skip
    rename_i hb
    cases he
    cases vint r1.view
    refine ⟨b, rfl, hb.1, hb.2, c1 _ H1 w1 Fr.refl R1 ?_⟩
    have := rng_ok (v := v) (K := X.K) (mg := X.mg) (a := 0) (b := b) (H := H1) (w := w1)
    rwa [Int.sub_zero] at this⟩
theorem pix_range2 {e2 : Expr} {ms : Q8 → Out (List D)} (hm : X.mg "range" = none) (ha : PXa X W p [e, e2] ms) (hg : Gl X "range" := by rfl) (hs : starEach [e, e2] X.env = [(false, eval e X.env), (false, eval e2 X.env)] := by rfl) (hs2 : starEach [e2] X.env = [(false, eval e2 X.env)] := by rfl) :
    PIX X W v p tg (.Call (.Name "range" ps) [e, e2] [] pos) (irange2 ms) :=
  piW (pi_range2 hg hm ha hs hs2) fun σ H Q ⟨q, w, R, c⟩ => ⟨q, w, R, (ct_rt c).bnd fun d q1 x H1 w1 e1 F1 R1 r1 c1 => by
    unfold Ct at c1
    dsimp only at c1
    split at c1 <;> rename_i he <;> split at he <;> first | (cases he; done) | exact c1.elim | skip
    all_goals split at he <;> first | (cases he; done) | exact c1.elim | skip
    rename_i a b hb
    cases he
    obtain ⟨_, _, rfl, h1, _, _, rfl, h2, rfl⟩ := r1
    cases (show _ = V.int _ from h1)
    cases (show _ = V.int _ from h2)
    exact ⟨a, b, rfl, hb, c1 _ H1 w1 Fr.refl R1 rng_ok⟩⟩
end
end Fy

set_option maxHeartbeats 1000000
namespace Fy
open PySem PySem.Spec PyProof.Rows L2

/-! ### targets -/
def datS (r : List (Option T)) (i : Nat) : Bool := match r[i]? with
  | some none => true
  | some (some (.d _)) => true
  | _ => false
abbrev GT := D → Q8 → Option Q8
abbrev GTs := List D → Q8 → Option Q8
def gset (i : Nat) : GT := fun d q => if datS q.r i = true then some { q with r := q.r.set i (some (.d d)) } else none
def gnil : GTs := fun ds q => match ds with
  | [] => some q
  | _ => none
def gcons (g : GT) (gs : GTs) : GTs := fun ds q => match ds with
  | d :: r => (g d q).bind fun q1 => gs r q1
  | [] => none
def gtup (n : Nat) (gs : GTs) : GT := fun d q => match d with
  | .tup ds => if ds.length = n then gs ds q else none
  | .lst ds => if ds.length = n then gs ds q else none
  | _ => none
section
variable {K : PySem.W.Frag} {mg : Str → Option Value} {m : List Addr} {ow : Addr → Prop} {H : Hp}
theorem ERep.setD : ∀ {ρ : List (Option T)} {σ : L2.St} {l : List Addr} {i : Nat} {d : D} {v : V}, ERep K mg m ow H ρ σ l → datS ρ i = true → DRep K mg m ow H d v → ERep K mg m ow H (ρ.set i (some (.d d))) (σ.set i (some v)) l
  | [], _, _, _, _, _, h, c, _ => by simp [datS] at c
  | none :: ρ, _, _, 0, d, v, ⟨x, r, e, h⟩, c, hd => by
    rw [e]; exact ⟨v, r, [], _, rfl, ⟨hd, rfl⟩, h, rfl⟩
  | some t :: ρ, _, _, 0, d, v, ⟨x, r, l1, l2, e, h1, h2, el⟩, c, hd => by
    cases t <;> first | (simp [datS] at c; done) | skip
    rw [e]
    obtain ⟨_, e1⟩ := h1
    subst e1
    exact ⟨v, r, [], _, rfl, ⟨hd, rfl⟩, h2, el⟩
  | none :: ρ, _, _, i + 1, d, v, ⟨x, r, e, h⟩, c, hd => by
    rw [e]; exact ⟨x, r.set i (some v), rfl, ERep.setD h (by simpa [datS] using c) hd⟩
  | some t :: ρ, _, _, i + 1, d, v, ⟨x, r, l1, l2, e, h1, h2, el⟩, c, hd => by
    rw [e]; exact ⟨x, r.set i (some v), l1, l2, rfl, h1, ERep.setD h2 (by simpa [datS] using c) hd, el⟩
theorem ERep.forget1 : ∀ {ρ : List (Option T)} {σ : L2.St} {l : List Addr} {i : Nat}, ERep K mg m ow H ρ σ l → datS ρ i = true → ERep K mg m ow H (ρ.set i none) σ l
  | [], _, _, _, h, c => by simp [datS] at c
  | none :: ρ, _, _, 0, h, c => h
  | some t :: ρ, _, _, 0, ⟨x, r, l1, l2, e, h1, h2, el⟩, c => by
    cases t <;> first | (simp [datS] at c; done) | skip
    obtain ⟨_, e1⟩ := h1
    subst e1
    rw [el]
    exact ⟨some x, r, e, h2⟩
  | none :: ρ, _, _, i + 1, ⟨x, r, e, h⟩, c => ⟨x, r, e, ERep.forget1 h (by simpa [datS] using c)⟩
  | some t :: ρ, _, _, i + 1, ⟨x, r, l1, l2, e, h1, h2, el⟩, c => ⟨x, r, l1, l2, e, h1, ERep.forget1 h2 (by simpa [datS] using c), el⟩
theorem ERep.free : ∀ {ρ : List (Option T)} {σ σ' : L2.St} {l : List Addr}, ERep K mg m ow H ρ σ l → σ'.length = σ.length → (∀ i : Nat, ρ[i]? = some none ∨ σ'[i]? = σ[i]?) → ERep K mg m ow H ρ σ' l
  | [], σ, σ', _, ⟨e, el⟩, hl, _ => by
    rw [e] at hl
    exact ⟨List.eq_nil_of_length_eq_zero hl, el⟩
  | none :: ρ, σ, σ', _, ⟨x, r, e, h⟩, hl, hs => by
    cases σ' with
    | nil => rw [e] at hl; simp at hl
    | cons y r' => exact ⟨y, r', rfl, ERep.free h (by rw [e] at hl; simpa using hl) fun i => by have := hs (i + 1); rw [e] at this; simpa using this⟩
  | some t :: ρ, σ, σ', _, ⟨x, r, l1, l2, e, h1, h2, el⟩, hl, hs => by
    cases σ' with
    | nil => rw [e] at hl; simp at hl
    | cons y r' =>
      have h0 := hs 0
      rw [e] at h0
      have e0 : y = some x := by simpa using h0
      rw [e0]
      exact ⟨x, r', l1, l2, rfl, h1, ERep.free h2 (by rw [e] at hl; simpa using hl) fun i => by have := hs (i + 1); rw [e] at this; simpa using this, el⟩
end
/-- slots forgotten -/
def wipeR (r : List (Option T)) : List Nat → List (Option T)
  | [] => r
  | v :: vs => (wipeR r vs).set v none
def okW (r : List (Option T)) (vs : List Nat) : Bool := vs.all fun i => datS r i
theorem wipeR_at {r : List (Option T)} : ∀ {vs : List Nat} {i : Nat}, (wipeR r vs)[i]? = r[i]? ∨ (wipeR r vs)[i]? = some none
  | [], i => .inl rfl
  | v :: vs, i => by
    unfold wipeR
    by_cases h : v = i
    · subst h
      by_cases hv : v < (wipeR r vs).length
      · exact .inr (by rw [List.getElem?_set_self hv])
      · rw [List.set_eq_of_length_le (by omega)]
        exact wipeR_at
    · rw [List.getElem?_set_ne h]
      exact wipeR_at
theorem wipeR_length {r : List (Option T)} : ∀ {vs : List Nat}, (wipeR r vs).length = r.length
  | [] => rfl
  | v :: vs => by unfold wipeR; rw [List.length_set, wipeR_length]
theorem wipeR_mem {r : List (Option T)} : ∀ {vs : List Nat} {i : Nat}, i ∈ vs → i < r.length → (wipeR r vs)[i]? = some none
  | v :: vs, i, h, hl => by
    unfold wipeR
    by_cases e : v = i
    · subst e
      rw [List.getElem?_set_self (by rw [wipeR_length]; exact hl)]
    · rw [List.getElem?_set_ne e]
      rcases List.mem_cons.mp h with z | z
      · exact absurd z.symm e
      · exact wipeR_mem z hl
theorem datS_lt {r : List (Option T)} {i : Nat} (h : datS r i = true) : i < r.length := by
  unfold datS at h
  by_cases hi : i < r.length
  · exact hi
  · rw [List.getElem?_eq_none (by omega)] at h; cases h
section
variable {K : PySem.W.Frag} {mg : Str → Option Value} {q : Q8} {w : Wd} {σ : L2.St} {H : Hp}
theorem Rp.setD {i : Nat} {d : D} {v : V} (R : Rp K mg q σ H w) (c : datS q.r i = true) (h : DRep K mg w.m w.ow H d v) : Rp K mg { q with r := q.r.set i (some (.d d)) } (σ.set i (some v)) H w where
  ex := let ⟨l1, l2, h1, h2⟩ := R.ex; ⟨l1, l2, h1.setD c h, h2⟩
  ro := R.ro
  apart := R.apart
  there := R.there
theorem ERep.forgets {m : List Addr} {ow : Addr → Prop} {ρ : List (Option T)} {l : List Addr} (h : ERep K mg m ow H ρ σ l) : ∀ {vs : List Nat}, okW ρ vs = true → ERep K mg m ow H (wipeR ρ vs) σ l
  | [], _ => h
  | v :: vs, c => by
    unfold okW at c
    rw [List.all_cons, Bool.and_eq_true] at c
    refine (ERep.forgets h (vs := vs) c.2).forget1 ?_
    have hv := datS_lt c.1
    unfold datS at c ⊢
    rcases wipeR_at (r := ρ) (vs := vs) (i := v) with e | e
    · rw [e]; exact c.1
    · rw [e]
/-- own slots forgotten: they may hold anything -/
theorem Rp.forget {vs : List Nat} {σ' : L2.St} (R : Rp K mg q σ H w) (c : okW q.r vs = true) (hl : σ'.length = σ.length) (hs : ∀ i, i ∉ vs → σ'[i]? = σ[i]?) : Rp K mg ⟨wipeR q.r vs, q.s, q.w⟩ σ' H w where
  ex := by
    obtain ⟨l1, l2, h1, h2⟩ := R.ex
    refine ⟨l1, l2, (h1.forgets c).free hl fun i => ?_, h2⟩
    by_cases hi : i ∈ vs
    · exact .inl (wipeR_mem hi (datS_lt (List.all_eq_true.mp c i hi)))
    · exact .inr (hs i hi)
  ro := R.ro
  apart := R.apart
  there := R.there
end
theorem wipe_ne {σ : L2.St} : ∀ {vs : List Nat} {i : Nat}, i ∉ vs → (wipe σ vs)[i]? = σ[i]?
  | [], i, _ => rfl
  | v :: vs, i, h => by
    unfold wipe
    rw [List.getElem?_set_ne (fun e => h (by rw [e]; simp)), wipe_ne (fun z => h (List.mem_cons_of_mem _ z))]
theorem wipe_eq {σ σ2 : L2.St} : ∀ {vs : List Nat}, σ2.length = σ.length → (∀ i, i ∉ vs → σ2[i]? = σ[i]?) → wipe σ2 vs = wipe σ vs := by
  intro vs hl h
  refine List.ext_getElem? fun i => ?_
  by_cases hi : i ∈ vs
  · have e : ∀ σ : L2.St, (wipe σ vs)[i]? = if i < σ.length then some none else none := by
      intro σ
      clear h hl
      induction vs with
      | nil => simp at hi
      | cons v vs ih =>
        unfold wipe
        by_cases e : v = i
        · subst e
          by_cases hv : v < σ.length
          · rw [List.getElem?_set_self (by rw [wipe_length]; exact hv), if_pos hv]
          · rw [List.getElem?_eq_none (by rw [List.length_set, wipe_length]; omega), if_neg hv]
        · rw [List.getElem?_set_ne e]
          exact ih (by rcases List.mem_cons.mp hi with z | z; exact absurd z.symm e; exact z)
    rw [e, e, hl]
  · rw [wipe_ne hi, wipe_ne hi, h i hi]

def RdG (K : PySem.W.Frag) (mg : Str → Option Value) (js : List Nat) (g : GT) : TG := fun v σ H Q => ∃ q w d, Rp K mg q σ H w ∧ DRep K mg w.m w.ow H d v ∧ match g d q with
  | some q' => ∀ σ' H', (∀ a o, H a = some o → H' a = some o) → Rp K mg q' σ' H' w → σ'.length = σ.length → (∀ i, i ∉ js → σ'[i]? = σ[i]?) → Q σ' H'
  | none => False
def RdGs (K : PySem.W.Frag) (mg : Str → Option Value) (js : List Nat) (g : GTs) : TGs := fun vs σ H Q => ∃ q w ds, Rp K mg q σ H w ∧ DReps K mg w.m w.ow H ds vs ∧ match g ds q with
  | some q' => ∀ σ' H', (∀ a o, H a = some o → H' a = some o) → Rp K mg q' σ' H' w → σ'.length = σ.length → (∀ i, i ∉ js → σ'[i]? = σ[i]?) → Q σ' H'
  | none => False
abbrev PGX (X : Cx) (js : List Nat) (tg : Expr) (g : GT) : Prop := PG X tg (RdG X.K X.mg js g)
abbrev PGXs (X : Cx) (js : List Nat) (ts : List Expr) (g : GTs) : Prop := PGs X ts (RdGs X.K X.mg js g)
theorem pgW {X : Cx} {e : Expr} {t t' : TG} (h : PG X e t) (k : ∀ v σ H Q, t' v σ H Q → t v σ H Q) : PG X e t' := ⟨fun pins s σ H v u Q I r hq => h.run pins s σ H v u Q I r (k _ _ _ _ hq)⟩
theorem pgsW {X : Cx} {es : List Expr} {t t' : TGs} (h : PGs X es t) (k : ∀ v σ H Q, t' v σ H Q → t v σ H Q) : PGs X es t' := ⟨fun pins s σ H v u Q I r hq => h.run pins s σ H v u Q I r (k _ _ _ _ hq)⟩
theorem pg_or {X : Cx} {e : Expr} {t t' : TG} (h : PG X e t) (h' : PG X e t') : PG X e (fun v σ H Q => t v σ H Q ∨ t' v σ H Q) := ⟨fun pins s σ H v u Q I r hq => hq.elim (h.run pins s σ H v u Q I r) (h'.run pins s σ H v u Q I r)⟩
section
variable {X : Cx} {pos : Pos}
theorem pgx_name (i : Nat) {x : Str} (hN : X.N.Nodup) (hi : X.N[i]? = some x := by rfl) (hx : Loc X.env.scope x := by first | exact Or.inl rfl | exact Or.inr rfl) (hf : X.fn x = true ∨ X.env.scope.names.lookup x = some .local := by first | exact .inl rfl | exact .inr rfl | assumption) : PGX X [i] (.Name x pos) (gset i) :=
  pgW (pg_name hN hi hx hf) fun v σ H Q ⟨q, w, d, R, r, h⟩ => by
    unfold gset at h
    split at h
    · rename_i q' e
      split at e
      · rename_i c
        cases e
        exact h _ H (fun _ _ z => z) (R.setD c r) (by rw [List.length_set]) fun j hj => by rw [List.getElem?_set_ne (fun z => hj (by rw [z]; simp))]
      · cases e
    · exact h.elim
theorem pgx_nil : PGXs X [] [] gnil := pgsW pgs_nil fun vs σ H Q ⟨q, w, ds, R, r, h⟩ => by
  unfold gnil at h
  split at h
  · rename_i q' e
    split at e
    · cases e
      exact ⟨r, h σ H (fun _ _ z => z) R rfl fun _ _ => rfl⟩
    · cases e
  · exact h.elim
theorem pgx_cons {js ks : List Nat} {e : Expr} {es : List Expr} {g : GT} {gs : GTs} (h1 : PGX X js e g) (h2 : PGXs X ks es gs) (hs : (assignEach (e :: es) X.env).map (·.2) = assign e X.env :: (assignEach es X.env).map (·.2) := by rfl) : PGXs X (js ++ ks) (e :: es) (gcons g gs) :=
  pgsW (pgs_cons h1 h2 hs) fun vs σ H Q ⟨q, w, ds, R, r, h⟩ => by
    unfold gcons at h
    cases ds with
    | nil => exact h.elim
    | cons d dr =>
      obtain ⟨v, vr, ev, r1, r2⟩ := r
      refine ⟨v, vr, ev, q, w, d, R, r1, ?_⟩
      dsimp only at h
      cases eg : g d q with
      | none => rw [eg] at h; exact h.elim
      | some q1 =>
        rw [eg] at h
        refine fun σ1 H1 k1 R1 l1 s1 => ⟨q1, w, dr, R1, DReps.mono (l := []) (mo_ext k1) r2, ?_⟩
        simp only [Option.bind_some] at h
        cases eg2 : gs dr q1 with
        | none => rw [eg2] at h; exact h.elim
        | some q2 =>
          rw [eg2] at h
          exact fun σ2 H2 k2 R2 l2 s2 => h σ2 H2 (fun a o e => k2 a o (k1 a o e)) R2 (l2.trans l1) fun i hi => (s2 i fun z => hi (List.mem_append_right _ z)).trans (s1 i fun z => hi (List.mem_append_left _ z))
theorem pgx_tup {js : List Nat} {es : List Expr} {k n : Nat} {gs : GTs} (hc : X.calm = true) (h : PGXs X js es gs) (hn : (assignEach es X.env).length = n := by rfl) (hst : (assignEach es X.env).findIdx? (·.1) = none := by rfl) : PGX X js (.Tuple es k pos) (gtup n gs) :=
  pgW (pg_or (pg_tup (pos := pos) (k := k) hc h hn hst) (pg_lst hc h hn hst)) fun v σ H Q ⟨q, w, d, R, r, h⟩ => by
    unfold gtup at h
    cases d <;> first | exact h.elim | skip
    · rename_i ds
      obtain ⟨a, vs, ev, t, rr⟩ := vtup r
      dsimp only at h
      split at h
      · rename_i q' e
        split at e
        · rename_i hl
          refine .inl ⟨a, vs, ev, t.sq, by rw [← rr.length]; exact hl, q, w, ds, R, rr, ?_⟩
          rw [e]; exact h
        · cases e
      · exact h.elim
    · rename_i ds
      obtain ⟨a, vs, ev, t, n, rr⟩ := r
      dsimp only at h
      split at h
      · rename_i q' e
        split at e
        · rename_i hl
          refine .inr ⟨a, vs, ev, .inl (.inl t), by rw [← rr.length]; exact hl, q, w, ds, R, rr, ?_⟩
          rw [e]; exact h
        · cases e
      · exact h.elim
end

/-! ### assignment to targets -/
def sasg (g : GT) (m : M8) : S8 := bnd m fun d q => match g d q with
  | some q' => .ok .nx q'
  | none => .no
section
variable {X : Cx} {W : WX} {v p : Bool} {e tg : Expr} {m : M8} {pos : Pos} {js : List Nat} {g : GT}
theorem sx_asg (he : PX X W false p e m) (hg : PGX X js tg g) (hs : swapsWithSole [tg] e pos.line X.env = pure false := by rfl) (hw : swappedStores [tg] e X.env = pure none := by rfl)
    (h1 : (assignEach [tg] X.env).map (·.2) = [assign tg X.env] := by rfl) : SX X W (.Assign [tg] e pos) (sasg g m) :=
  psW (ps_asg he hg hs hw h1) fun D σ H ⟨q, w, R, h⟩ => ⟨q, w, R, h.bnd fun d q1 x H1 w1 e1 F1 R1 r1 h1 => ⟨q1, w1, d, R1, r1, by
    unfold CtS at h1
    dsimp only at h1
    cases eg : g d q1 with
    | none => rw [eg] at h1; exact h1
    | some q' =>
      rw [eg] at h1
      exact fun σ' H' k R' _ _ => h1 σ' H' w1 (Fr.ext k) R'⟩⟩

/-! ### for -/
def sforL (g : GT) (b : S8) : List D → S8
  | [] => snext
  | d :: ds => fun q => match g d q with
    | none => .no
    | some q1 => bnd b (fun f => match f with
      | .nx => sforL g b ds
      | .ct => sforL g b ds
      | .bk => mret .nx
      | .rt t => mret (.rt t)) q1
def sfor (it : Q8 → Out (List D)) (g : GT) (b : S8) : S8 := bnd it fun ds => sforL g b ds
theorem CtS.bndF {K : PySem.W.Frag} {mg : Str → Option Value} {a : S8} {f : Fl8 → S8} {q : Q8} {w : Wd} {σ : L2.St} {H : Hp} {Dn Dn' : Ends} (h : CtS K mg W (Fy.bnd a f) q w σ H Dn)
    (nx : ∀ q1 σ1 H1 w1, Fr false H w H1 w1 → Rp K mg q1 σ1 H1 w1 → CtS K mg W (f .nx) q1 w1 σ1 H1 Dn → Dn'.nx σ1 H1)
    (bk : ∀ q1 σ1 H1 w1, Fr false H w H1 w1 → Rp K mg q1 σ1 H1 w1 → CtS K mg W (f .bk) q1 w1 σ1 H1 Dn → Dn'.bk σ1 H1)
    (ct : ∀ q1 σ1 H1 w1, Fr false H w H1 w1 → Rp K mg q1 σ1 H1 w1 → CtS K mg W (f .ct) q1 w1 σ1 H1 Dn → Dn'.ct σ1 H1)
    (rt : ∀ t q1, f (.rt t) q1 = .ok (.rt t) q1) (er : Dn'.rt = Dn.rt) : CtS K mg W a q w σ H Dn' := by
  unfold CtS
  cases e : a q with
  | no =>
    unfold CtS Fy.bnd at h
    rw [e] at h; exact h
  | exc x q' =>
    unfold CtS Fy.bnd at h
    rw [e] at h; exact h
  | ok fl q1 =>
    cases fl with
    | nx => exact fun σ' H' w' F R => nx q1 σ' H' w' F R (h.from F (by unfold Fy.bnd; rw [e]))
    | bk => exact fun σ' H' w' F R => bk q1 σ' H' w' F R (h.from F (by unfold Fy.bnd; rw [e]))
    | ct => exact fun σ' H' w' F R => ct q1 σ' H' w' F R (h.from F (by unfold Fy.bnd; rw [e]))
    | rt t =>
      unfold CtS Fy.bnd at h
      rw [e] at h
      simp only [rt] at h
      rw [er]
      exact h
theorem sx_for {iter : Expr} {body : List Stmt} {it : Q8 → Out (List D)} {b : S8} (hp : PassesOwn (model X.prog X.w) X.A X.env X.xe) (hc : X.calm = true) (hi : PIX X W false p tg iter it) (hg : PGX X js tg g) (hb : SXs X W body b)
    (hs : ∀ x, foldedSetIterable iter X.env x = pure x := by intro _; rfl) : SX X W (.For tg iter body [] pos) (sfor it g b) :=
  psW (ps_for hp hc hi hg hb hs) fun D σ H ⟨q, w, R, h⟩ => ⟨q, w, R, h.bnd fun ds q1 J H1 w1 e1 F1 R1 r1 h1 => by
    refine ⟨fun i n σ H => ∃ q w, Rp X.K X.mg q σ H w ∧ Fr false H1 w1 H w ∧ i + n = ds.length ∧ CtS X.K X.mg W (sforL g b (ds.drop i)) q w σ H D, ⟨ds.length, q1, w1, R1, Fr.refl, by omega, h1⟩, fun i n σ H ⟨q, w, R, F, hn, h⟩ => ?_⟩
    obtain ⟨ig, is⟩ := r1 H w.m w.ow i F.mv R.there
    cases n with
    | zero =>
      have ei : i = ds.length := by omega
      rw [List.drop_eq_nil_of_le (by omega)] at h
      exact .inl ⟨is ei, h.next R⟩
    | succ n =>
      have hi : i < ds.length := by omega
      obtain ⟨go, yl⟩ := ig ds[i] (List.getElem?_eq_getElem hi)
      rw [List.drop_eq_getElem_cons hi] at h
      refine .inr ⟨go, fun σ' H' => ∃ q w, Rp X.K X.mg q σ' H' w ∧ Fr false H1 w1 H' w ∧ i + 1 + n = ds.length ∧ CtS X.K X.mg W (sforL g b (ds.drop (i + 1))) q w σ' H' D, fun σ' H' z => ⟨n, Nat.lt_succ_self n, z⟩, fun x H' hy => ?_⟩
      obtain ⟨kx, rx⟩ := yl x H' hy
      have F' : Fr false H1 w1 H' w := (F.trans (Fr.ext (p := true) kx)).loose
      refine ⟨q, w, ds[i], R.ext kx, rx, ?_⟩
      cases eg : g ds[i] q with
      | none =>
        unfold CtS sforL at h
        rw [eg] at h; exact h
      | some q2 =>
        refine fun σ2 H2 k2 R2 _ _ => ⟨q2, w, R2, ?_⟩
        have F2 : Fr false H1 w1 H2 w := (F'.trans (Fr.ext (p := true) k2)).loose
        have h2 := h.from (m' := bnd b fun f => match f with
          | .nx => sforL g b (ds.drop (i + 1))
          | .ct => sforL g b (ds.drop (i + 1))
          | .bk => mret .nx
          | .rt t => mret (.rt t)) (q' := q2) (σ1 := σ2) (Fr.ext (p := true) fun a o e => k2 a o (kx a o e)) (by rw [sforL]; dsimp only; rw [eg])
        exact h2.bndF (fun q3 σ3 H3 w3 F3 R3 h3 => ⟨q3, w3, R3, (F2.trans F3).loose, by omega, h3⟩) (fun q3 σ3 H3 w3 F3 R3 h3 => h3 σ3 H3 w3 Fr.refl R3) (fun q3 σ3 H3 w3 F3 R3 h3 => ⟨q3, w3, R3, (F2.trans F3).loose, by omega, h3⟩) (fun _ _ => rfl) rfl⟩
end
end Fy

set_option maxHeartbeats 1000000
namespace Fy
open PySem PySem.Spec PyProof.Rows L2

/-! ### a new object that grows beside the state -/
def Wd.plus (w : Wd) (D : Addr) : Wd := ⟨w.m, w.fp, fun a => w.oo a ∨ a = D, w.ro⟩
def Wd.minus (w w0 : Wd) : Wd := ⟨w.m, w.fp, w0.oo, w.ro⟩
section
variable {K : PySem.W.Frag} {mg : Str → Option Value} {q : Q8} {w w1 : Wd} {σ : L2.St} {H H1 : Hp} {D : Addr} {o : HO}
theorem plus_ow {a : Addr} : (w.plus D).ow a ↔ w.ow a ∨ a = D := by
  unfold Wd.ow Wd.plus
  constructor
  · rintro (h | h | h)
    · exact .inl (.inl h)
    · exact .inl (.inr h)
    · exact .inr h
  · rintro ((h | h) | h)
    · exact .inl h
    · exact .inr (.inl h)
    · exact .inr (.inr h)
theorem mo_plus {l : List Addr} (hn : H D = none) : Mo w.m (w.plus D).m w.ow (w.plus D).ow l H (upd H D o) :=
  ⟨List.prefix_refl _, fun a u e _ => upd_keep hn a u e, fun a e n x => (plus_ow.mp x).elim n fun z => e (z ▸ hn)⟩
theorem Rp.plus (R : Rp K mg q σ H w) (hn : H D = none) : Rp K mg q σ (upd H D o) (w.plus D) where
  ex := by
    obtain ⟨l1, l2, h1, h2, h3⟩ := R.ex
    exact ⟨l1, l2, h1.mono (mo_plus hn), h2.mono (mo_plus hn), h3⟩
  ro := fun a h => .inl (R.ro a h)
  apart := fun a h z => z.elim (R.apart a h) fun e => R.there a (.inl h) (e ▸ hn)
  there := fun a h => by
    by_cases e : a = D
    · rw [e, upd_same]; simp
    · rw [upd_ne e]; exact R.there a ((plus_ow.mp h).resolve_right e)
theorem plus_out (R : Rp K mg q σ H (w.plus D)) (hr : ¬ w.ro D) {l1 l2 : List Addr} (h3 : (q.w = true ∧ (w.plus D).fp = l1 ++ l2) ∨ (q.w = false ∧ (w.plus D).fp = l1 ∧ ∀ a ∈ l2, (w.plus D).ro a)) : D ∉ l1 ∧ D ∉ l2 := by
  rcases h3 with ⟨_, e⟩ | ⟨_, e, h⟩
  · exact ⟨fun z => R.apart D (by rw [e]; exact List.mem_append_left _ z) (.inr rfl), fun z => R.apart D (by rw [e]; exact List.mem_append_right _ z) (.inr rfl)⟩
  · exact ⟨fun z => R.apart D (by rw [e]; exact z) (.inr rfl), fun z => hr (h D z)⟩
theorem mo_at {l : List Addr} (hl : D ∉ l) : Mo w.m w.m (w.plus D).ow (w.plus D).ow l H (upd H D o) :=
  ⟨List.prefix_refl _, fun a u e z => by
    have ne : a ≠ D := by
      rintro rfl
      exact z.elim (fun z => z (plus_ow.mpr (.inr rfl))) hl
    rw [upd_ne ne]; exact e, fun _ _ h => h⟩
/-- what lies at D is another thing now -/
theorem Rp.at (R : Rp K mg q σ H (w.plus D)) (hr : ¬ w.ro D) : Rp K mg q σ (upd H D o) (w.plus D) where
  ex := by
    obtain ⟨l1, l2, h1, h2, nd, h3⟩ := R.ex
    obtain ⟨n1, n2⟩ := plus_out R hr h3
    exact ⟨l1, l2, h1.mono (mo_at (w := w) n1), h2.mono (mo_at (w := w) n2), nd, h3⟩
  ro := R.ro
  apart := R.apart
  there := fun a h => by
    by_cases e : a = D
    · rw [e, upd_same]; simp
    · rw [upd_ne e]; exact R.there a h
theorem mo_minus {l : List Addr} : Mo w.m w.m (w.plus D).ow w.ow l H H := ⟨List.prefix_refl _, fun a u e _ => e, fun a _ n x => n (plus_ow.mpr (.inl x))⟩
/-- D is let go -/
theorem Rp.minus (R : Rp K mg q σ H (w.plus D)) (hr : ∀ a, w.ro a → w.oo a) : Rp K mg q σ H w where
  ex := by
    obtain ⟨l1, l2, h1, h2, nd, h3⟩ := R.ex
    exact ⟨l1, l2, h1.mono mo_minus, h2.mono mo_minus, nd, h3⟩
  ro := hr
  apart := fun a h z => R.apart a h (.inl z)
  there := fun a h => R.there a (plus_ow.mpr (.inl h))
theorem plus_of {w' : Wd} (h : w'.oo = (w.plus D).oo) (hr : w'.ro = w.ro) : w' = (w'.minus w).plus D ∧ (w'.minus w).ro = w.ro := by
  cases w'
  simp only at h hr
  subst h hr
  exact ⟨rfl, rfl⟩
end

/-! ### [e for target in source if test] -/
/-- one turn: a step of the thing that is made -/
def tnL {A : Type} (g : GT) (t : Q8 → Out Bool) (e : A → Q8 → Out A) (vs : List Nat) : List D → A → Q8 → Out A
  | [], acc => mret acc
  | d :: ds, acc => fun q => match g d q with
    | none => .no
    | some q2 => match t q2 with
      | .ok true q3 => match e acc q3 with
        | .ok acc' q4 => if okW q4.r vs = true then tnL g t e vs ds acc' ⟨wipeR q4.r vs, q4.s, q4.w⟩ else .no
        | _ => .no
      | .ok false q3 => if okW q3.r vs = true then tnL g t e vs ds acc ⟨wipeR q3.r vs, q3.s, q3.w⟩ else .no
      | _ => .no
def mcomp {A B : Type} (it : Q8 → Out (List D)) (g : GT) (t : Q8 → Out Bool) (e : A → Q8 → Out A) (vs : List Nat) (a0 : A) (fin : A → Q8 → Out B) : Q8 → Out B := bnd it fun ds q =>
  if okW q.r vs = true then bnd (tnL g t e vs ds a0) fin ⟨wipeR q.r vs, q.s, q.w⟩ else .no
theorem tnL_noexc {A : Type} {g : GT} {t : Q8 → Out Bool} {e : A → Q8 → Out A} {vs : List Nat} : ∀ {ds : List D} {a : A} {q q' : Q8} {x : Xn}, tnL g t e vs ds a q = .exc x q' → False
  | [], a, q, q', x, h => by cases h
  | d :: ds, a, q, q', x, h => by
    unfold tnL at h
    split at h
    · cases h
    · split at h
      · split at h
        · split at h
          · exact tnL_noexc h
          · cases h
        · cases h
      · split at h
        · exact tnL_noexc h
        · cases h
      · cases h
/-- .. of a list -/
def stL (e : M8) : List D → Q8 → Out (List D) := fun acc => bnd e fun y => mop (if acc.length < sizeLine then some (acc ++ [y]) else none)
def mlc (it : Q8 → Out (List D)) (g : GT) (t : Q8 → Out Bool) (e : M8) (vs : List Nat) : M8 := mcomp it g t (stL e) vs [] (fun a => mret (.lst a))
theorem Rp.frees {K : PySem.W.Frag} {mg : Str → Option Value} {q : Q8} {w : Wd} {σ σ' : L2.St} {H : Hp} (R : Rp K mg q σ H w) (hl : σ'.length = σ.length) (hs : ∀ i : Nat, q.r[i]? = some none ∨ σ'[i]? = σ[i]?) : Rp K mg q σ' H w where
  ex := by
    obtain ⟨l1, l2, h1, h2⟩ := R.ex
    exact ⟨l1, l2, h1.free hl hs, h2⟩
  ro := R.ro
  apart := R.apart
  there := R.there
def tyes : Q8 → Out Bool := mret true
section
variable {K : PySem.W.Frag} {mg : Str → Option Value} {w w1 w3 w4 : Wd} {H H1 H3 H4 : Hp} {Da : Addr} {o : HO} {p p' : Bool}
theorem Fr.wk (F : Fr p H w H1 w1) (h : p' = true → p = true) : Fr p' H w H1 w1 := ⟨F.keep, F.out, F.oo, F.ro, F.m, fun z => F.pure (h z)⟩
theorem Fr.step (F : Fr p H1 w1 H3 w3) (hn : H1 Da = none) (G : Fr p H3 (w3.plus Da) H4 w4) : Fr p H1 w1 H4 (w4.minus w3) where
  keep := fun a u e n => G.keep a u (F.keep a u e n) (F.out a (by rw [e]; simp) n)
  out := fun a e n => by
    cases q : H1 a with
    | none => exact absurd q e
    | some u => exact G.out a (by rw [F.keep a u q n]; simp) (F.out a e n)
  oo := F.oo
  ro := G.ro.trans F.ro
  m := F.m.trans G.m
  pure := fun z => by
    obtain ⟨e1, k1⟩ := F.pure z
    obtain ⟨e2, k2⟩ := G.pure z
    exact ⟨by rw [e2, ← e1]; rfl, fun a u e => k2 a u (k1 a u e)⟩
theorem Fr.upd (F : Fr p H1 w1 H4 w4) (hn : H1 Da = none) : Fr p H1 w1 (L2.upd H4 Da o) w4 where
  keep := fun a u e n => by rw [upd_ne (ne_of_none e hn)]; exact F.keep a u e n
  out := F.out
  oo := F.oo
  ro := F.ro
  m := F.m
  pure := fun z => ⟨(F.pure z).1, fun a u e => by rw [upd_ne (ne_of_none e hn)]; exact (F.pure z).2 a u e⟩
end
/-- the readings of comprehensions, in one form -/
def tCp (wi : TI) (g : TG) (tt : TT) (stp : L2.St → Hp → Addr → (Hp → Prop) → Prop) (vs : List Nat) (o0 : Addr → HO) : TE := fun σ H Q => wi σ H fun J H1 => ∀ D, H1 D = none → ∃ W : Nat → Nat → Hp → Prop, (∃ m, W 0 m (upd H1 D (o0 D))) ∧ ∀ i m H, W i m H →
  (J.stop i H ∧ Q (.ref D) H) ∨ (J.go i H ∧ ∃ Nx : Hp → Prop, (∀ H', Nx H' → ∃ m', m' < m ∧ W (i + 1) m' H') ∧ ∀ x H', J.yld i H x H' → g x (wipe σ vs) H' fun σ2 H2 => wipe σ2 vs = wipe σ vs ∧ tt σ2 H2 fun b H3 =>
    if b = true then stp σ2 H3 D Nx else Nx H3)
def Ok8 {A : Type} (r : Out A) (P : A → Q8 → Prop) : Prop := match r with
  | .ok a q => P a q
  | _ => False
abbrev W00 : WX := fun _ _ _ _ => False
theorem Ct.no {K : PySem.W.Frag} {mg : Str → Option Value} {W : WX} {p : Bool} {α β : Type} {rel : Rl α β} {m : Q8 → Out α} {q : Q8} {w : Wd} {σ : L2.St} {H : Hp} {Q : β → Hp → Prop} (h : Ct K mg W p rel m q w σ H Q) (e : m q = .no) : False := by
  unfold Ct at h
  rw [e] at h; exact h
section
variable {K : PySem.W.Frag} {mg : Str → Option Value} {W : WX} {A : Type}
theorem comp_in {v p1 : Bool} {js vs : List Nat} {g : GT} {t : Q8 → Out Bool} {e : A → Q8 → Out A} {a0 : A} {stp : L2.St → Hp → Addr → (Hp → Prop) → Prop} {o0 : Addr → HO}
    (AR : List Addr → (Addr → Prop) → Hp → Addr → A → HO → Prop) (ARm : ∀ {m m' : List Addr} {ow ow' : Addr → Prop} {H H' : Hp} {Da : Addr} {a : A} {o : HO}, Mo m m' ow ow' [] H H' → AR m ow H Da a o → AR m' ow' H' Da a o)
    (AR0 : ∀ {m : List Addr} {ow : Addr → Prop} {H : Hp} {Da : Addr}, AR m ow H Da a0 (o0 Da))
    (hstp : ∀ {acc : A} {q : Q8} {σ : L2.St} {H : Hp} {w : Wd} {Da : Addr} {o : HO} {Nx : Hp → Prop}, Rp K mg q σ H (w.plus Da) → ¬ w.ro Da → H Da = some o → AR w.m (w.plus Da).ow H Da acc o →
      (Ok8 (e acc q) fun acc' q' => ∀ H4 w4 o', Fr p1 H (w.plus Da) H4 (Wd.plus w4 Da) → w4.oo = w.oo → Rp K mg q' σ (upd H4 Da o') (w4.plus Da) → AR w4.m (w4.plus Da).ow (upd H4 Da o') Da acc' o' → Nx (upd H4 Da o')) → stp σ H Da Nx)
    (hj : ∀ i ∈ js, i ∈ vs) (hv : v = true → p1 = true) {σ : L2.St} {Q : VK} {q1 : Q8} {J : It} {H1 : Hp} {w1 : Wd} {ds : List D} (R1 : Rp K mg q1 σ H1 w1) (r1 : ItOk K mg v J ds H1 w1) (ho : okW q1.r vs = true)
    (hres : Ok8 (tnL g t e vs ds a0 ⟨wipeR q1.r vs, q1.s, q1.w⟩) fun acc q' => ∀ H w Da o, Fr p1 H1 w1 H w → Rp K mg q' σ H w → Rp K mg q' σ H (w.plus Da) → AR w.m w.ow H Da acc o → AR w.m (w.plus Da).ow H Da acc o → H Da = some o → ¬ w.ow Da → H1 Da = none → Q (.ref Da) H) :
    ∀ D, H1 D = none → ∃ W : Nat → Nat → Hp → Prop, (∃ m, W 0 m (upd H1 D (o0 D))) ∧ ∀ i m H, W i m H →
      (J.stop i H ∧ Q (.ref D) H) ∨ (J.go i H ∧ ∃ Nx : Hp → Prop, (∀ H', Nx H' → ∃ m', m' < m ∧ W (i + 1) m' H') ∧ ∀ x H', J.yld i H x H' → RdG K mg js g x (wipe σ vs) H' fun σ2 H2 => wipe σ2 vs = wipe σ vs ∧ Rd K mg W00 p1 relB t σ2 H2 fun b H3 =>
        if b = true then stp σ2 H3 D Nx else Nx H3) := by
  intro Da hn
  have hro : ∀ a, w1.ro a → a ≠ Da := fun a h z => R1.there a (.inr (R1.ro a h)) (z ▸ hn)
  have hoo : ∀ a, w1.oo a → a ≠ Da := fun a h z => R1.there a (.inr h) (z ▸ hn)
  have Rw : Rp K mg ⟨wipeR q1.r vs, q1.s, q1.w⟩ (wipe σ vs) H1 w1 := R1.forget ho (wipe_length ..) fun i hi => wipe_ne hi
  -- the invariant
  let Fin : A → Q8 → Nat → Prop := fun acc q i => Ok8 (tnL g t e vs (ds.drop i) acc q) fun acc q' => ∀ H w Da o, Fr p1 H1 w1 H w → Rp K mg q' σ H w → Rp K mg q' σ H (w.plus Da) → AR w.m w.ow H Da acc o → AR w.m (w.plus Da).ow H Da acc o → H Da = some o → ¬ w.ow Da → H1 Da = none → Q (.ref Da) H
  refine ⟨fun i n H => ∃ acc q w o, i + n = ds.length ∧ Rp K mg q (wipe σ vs) H (Wd.plus w Da) ∧ Fr p1 H1 w1 H w ∧ H Da = some o ∧ AR w.m (w.plus Da).ow H Da acc o ∧ (∀ j ∈ vs, q.r[j]? = some none) ∧ Fin acc q i,
    ⟨ds.length, a0, _, w1, o0 Da, by omega, Rw.plus hn, Fr.ext (upd_keep hn), upd_same, AR0, fun j hj => wipeR_mem hj (datS_lt (List.all_eq_true.mp ho j hj)), hres⟩, fun i n H ⟨acc, q, w, o, hlen, R, F, hD, ar, hs, c⟩ => ?_⟩
  have hro' : ¬ w.ro Da := fun z => hro Da (by rw [← F.ro]; exact z) rfl
  have roo : ∀ a, w.ro a → w.oo a := fun a z => by rw [F.oo]; rw [F.ro] at z; exact R1.ro a z
  have mv : Mv v w1.m (w.plus Da).m w1.ow (w.plus Da).ow H1 H := by
    refine ⟨⟨F.m, F.mo.k, fun a e n x => ?_⟩, fun z => (F.pure (hv z)).2⟩
    rcases plus_ow.mp x with x | x
    · exact F.mo.o a e n x
    · exact e (x ▸ hn)
  obtain ⟨ig, is⟩ := r1 H (w.plus Da).m (w.plus Da).ow i mv R.there
  have c' : Ok8 (tnL g t e vs (ds.drop i) acc q) fun acc q' => ∀ H w Da o, Fr p1 H1 w1 H w → Rp K mg q' σ H w → Rp K mg q' σ H (w.plus Da) → AR w.m w.ow H Da acc o → AR w.m (w.plus Da).ow H Da acc o → H Da = some o → ¬ w.ow Da → H1 Da = none → Q (.ref Da) H := c
  cases n with
  | zero =>
    have ei : i = ds.length := by omega
    refine .inl ⟨is ei, ?_⟩
    rw [List.drop_eq_nil_of_le (by omega)] at c'
    unfold Ok8 at c'
    have nD : ¬ w.ow Da := fun z => z.elim (fun z => R.apart Da z (.inr rfl)) fun z => hoo Da (by rw [← F.oo]; exact z) rfl
    have fre : ∀ j : Nat, q.r[j]? = some none ∨ σ[j]? = (wipe σ vs)[j]? := fun j => by
      by_cases hj : j ∈ vs
      · exact .inl (hs j hj)
      · exact .inr (wipe_ne hj).symm
    exact c' H w Da o F ((R.minus roo).frees (by rw [wipe_length]) fre) (R.frees (by rw [wipe_length]) fre) (ARm mo_minus ar) ar hD nD hn
  | succ n =>
    have hi : i < ds.length := by omega
    obtain ⟨go, yl⟩ := ig ds[i] (List.getElem?_eq_getElem hi)
    refine .inr ⟨go, fun H => ∃ acc q w o, i + 1 + n = ds.length ∧ Rp K mg q (wipe σ vs) H (Wd.plus w Da) ∧ Fr p1 H1 w1 H w ∧ H Da = some o ∧ AR w.m (w.plus Da).ow H Da acc o ∧ (∀ j ∈ vs, q.r[j]? = some none) ∧ Fin acc q (i + 1), fun H' z => ⟨n, Nat.lt_succ_self n, z⟩, fun x H' hy => ?_⟩
    obtain ⟨kx, rx⟩ := yl x H' hy
    rw [List.drop_eq_getElem_cons hi] at c'
    have F' : Fr p1 H1 w1 H' w := by
      have := F.trans (Fr.ext (p := p1) kx)
      rwa [Bool.and_self] at this
    refine ⟨q, w.plus Da, ds[i], R.ext kx, rx, ?_⟩
    unfold tnL Ok8 at c'
    cases eg : g ds[i] q with
    | none => rw [eg] at c'; exact c'
    | some q2 =>
      rw [eg] at c'
      dsimp only at c'
      refine fun σ2 H'' k2 R2 l2 s2 => ⟨wipe_eq (by rw [l2, wipe_length]) fun j hj' => by rw [s2 j (fun z => hj' (hj j z)), wipe_ne hj'], ?_⟩
      have kx : ∀ b o, H b = some o → H'' b = some o := fun b o e => k2 b o (kx b o e)
      have F' : Fr p1 H1 w1 H'' w := by
        have := F.trans (Fr.ext (p := p1) kx)
        rwa [Bool.and_self] at this
      have hD' : H'' Da = some o := kx _ _ hD
      have ap : Da ∉ (w.plus Da).fp := fun z => R.apart Da z (.inr rfl)
      have nxt : ∀ {acc' : A} {q4 : Q8} {H4 : Hp} {w4 : Wd} {o' : HO}, Rp K mg q4 σ2 H4 (w4.plus Da) → Fr p1 H1 w1 H4 w4 → H4 Da = some o' → AR w4.m (w4.plus Da).ow H4 Da acc' o' → okW q4.r vs = true → Fin acc' ⟨wipeR q4.r vs, q4.s, q4.w⟩ (i + 1) →
          ∃ acc q w o, i + 1 + n = ds.length ∧ Rp K mg q (wipe σ vs) H4 (Wd.plus w Da) ∧ Fr p1 H1 w1 H4 w ∧ H4 Da = some o ∧ AR w.m (w.plus Da).ow H4 Da acc o ∧ (∀ j ∈ vs, q.r[j]? = some none) ∧ Fin acc q (i + 1) :=
        fun {acc' q4 H4 w4 o'} R4 F4 hD4 ar4 ok4 c4 => ⟨acc', _, w4, o', by omega, R4.forget ok4 (by rw [wipe_length, l2, wipe_length]) fun j hj' => by rw [wipe_ne hj', s2 j (fun z => hj' (hj j z)), wipe_ne hj'], F4, hD4, ar4, fun j hj' => wipeR_mem hj' (datS_lt (List.all_eq_true.mp ok4 j hj')), c4⟩
      refine ⟨q2, w.plus Da, R2, ?_⟩
      unfold Ct
      cases et : t q2 with
      | no => rw [et] at c'; exact c'
      | exc x q3 => rw [et] at c'; exact c'.elim
      | ok b q3 =>
        rw [et] at c'
        intro b' H3 w3' F3 R3 rb
        cases (show b' = b from rb)
        obtain ⟨ew, er⟩ := plus_of F3.oo F3.ro
        have hD3 : H3 Da = some o := F3.keep _ _ hD' ap
        have FF : Fr p1 H1 w1 H3 (w3'.minus w) := F'.step hn F3
        rw [ew] at R3
        have ar3 : AR (w3'.minus w).m ((w3'.minus w).plus Da).ow H3 Da acc o := by
          rw [← ew]
          exact ARm F3.mo (ARm (mo_ext kx) ar)
        cases b with
        | false =>
          simp only [Bool.false_eq_true, if_false]
          dsimp only at c'
          by_cases ok3 : okW q3.r vs = true
          · rw [if_pos ok3] at c'
            exact nxt R3 FF hD3 ar3 ok3 c'
          · rw [if_neg ok3] at c'
            exact c'.elim
        | true =>
          simp only [if_true]
          refine hstp R3 (by rw [er]; exact hro') hD3 ar3 ?_
          unfold Ok8
          dsimp only at c'
          cases ee : e acc q3 with
          | no => rw [ee] at c'; exact c'
          | exc x q4 => rw [ee] at c'; exact c'
          | ok acc' q4 =>
            rw [ee] at c'
            intro H4 w4 o' F4 oo4 R4 ar4
            dsimp only at c'
            by_cases ok4 : okW q4.r vs = true
            · rw [if_pos ok4] at c'
              have F5 : Fr p1 H1 w1 H4 ((w4.plus Da).minus (w3'.minus w)) := FF.step hn F4
              have e5 : (w4.plus Da).minus (w3'.minus w) = w4 := by
                cases w4
                simp only at oo4
                subst oo4
                rfl
              rw [e5] at F5
              exact nxt R4 (F5.upd hn) upd_same ar4 ok4 c'
            · rw [if_neg ok4] at c'
              exact c'.elim
theorem Ct.at {α β : Type} {rel : Rl α β} {p : Bool} {m : Q8 → Out α} {q : Q8} {w w1 : Wd} {σ : L2.St} {H H1 : Hp} {Q : β → Hp → Prop} (F : Fr p H1 w1 H w) (h : Ct K mg W p rel m q w1 σ H1 Q) : Ct K mg W p rel m q w σ H Q := by
  unfold Ct at h ⊢
  cases e : m q with
  | no => rw [e] at h; exact h
  | exc x q' => rw [e] at h; exact fun c a H' w' F' R z => h c a H' w' (by have := F.trans F'; rwa [Bool.and_self] at this) R z
  | ok d q' => rw [e] at h; exact fun x H' w' F' R r => h x H' w' (by have := F.trans F'; rwa [Bool.and_self] at this) R r
/-- .. and what is made of it is data -/
theorem comp_of {v p0 p1 : Bool} {js vs : List Nat} {it : Q8 → Out (List D)} {g : GT} {t : Q8 → Out Bool} {e : A → Q8 → Out A} {a0 : A} {fin : A → M8} {stp : L2.St → Hp → Addr → (Hp → Prop) → Prop} {o0 : Addr → HO} {Q0 : VK}
    (AR : List Addr → (Addr → Prop) → Hp → Addr → A → HO → Prop) (ARm : ∀ {m m' : List Addr} {ow ow' : Addr → Prop} {H H' : Hp} {Da : Addr} {a : A} {o : HO}, Mo m m' ow ow' [] H H' → AR m ow H Da a o → AR m' ow' H' Da a o)
    (AR0 : ∀ {m : List Addr} {ow : Addr → Prop} {H : Hp} {Da : Addr}, AR m ow H Da a0 (o0 Da))
    (hstp : ∀ {acc : A} {q : Q8} {σ : L2.St} {H : Hp} {w : Wd} {Da : Addr} {o : HO} {Nx : Hp → Prop}, Rp K mg q σ H (w.plus Da) → ¬ w.ro Da → H Da = some o → AR w.m (w.plus Da).ow H Da acc o →
      (Ok8 (e acc q) fun acc' q' => ∀ H4 w4 o', Fr p1 H (w.plus Da) H4 (Wd.plus w4 Da) → w4.oo = w.oo → Rp K mg q' σ (upd H4 Da o') (w4.plus Da) → AR w4.m (w4.plus Da).ow (upd H4 Da o') Da acc' o' → Nx (upd H4 Da o')) → stp σ H Da Nx)
    (hj : ∀ i ∈ js, i ∈ vs) (hv : v = true → p1 = true) {σ : L2.St} {H : Hp} {Q : VK}
    (hfin : ∀ {acc : A} {q : Q8} {H : Hp} {w : Wd} {Da : Addr} {o : HO}, Rp K mg q σ H w → AR w.m w.ow H Da acc o → H Da = some o → ¬ w.ow Da → Ct K mg W p1 (VD K mg false) (fin acc) q w σ H Q0 → Q (.ref Da) H)
    (h : Rd K mg W (p0 && p1) (VD K mg false) (mcomp it g t e vs a0 fin) σ H Q0) :
    tCp (RdI K mg W v p0 it) (RdG K mg js g) (Rd K mg W00 p1 relB t) stp vs o0 σ H Q := by
  obtain ⟨q, w, R, h⟩ := h
  refine ⟨q, w, R, h.bnd fun ds q1 J H1 w1 e1 F1 R1 r1 c1 => ?_⟩
  by_cases ho : okW q1.r vs = true
  · refine comp_in AR ARm AR0 hstp hj hv R1 r1 ho ?_
    unfold Ok8
    have c2 : Ct K mg W p1 (VD K mg false) (bnd (tnL g t e vs ds a0) fin) ⟨wipeR q1.r vs, q1.s, q1.w⟩ w1 σ H1 Q0 := by
      unfold Ct at c1
      simp only [ho, if_true] at c1
      exact c1
    cases et : tnL g t e vs ds a0 ⟨wipeR q1.r vs, q1.s, q1.w⟩ with
    | no => exact c2.no (by unfold bnd; rw [et])
    | exc x q' =>
      exact (tnL_noexc et).elim
    | ok acc q' =>
      intro H w Da o F Rm _ ar _ hD hn _
      refine hfin Rm ar hD hn ?_
      refine Ct.at F ?_
      unfold Ct bnd at c2
      rw [et] at c2
      exact c2
  · exact (c1.no (by simp only [ho]; rfl)).elim
end
section
variable {X : Cx} {W : WX} {v p0 p1 : Bool} {elt tg iter : Expr} {ifs : List Expr} {scope : Scope} {own : List (Str × Nat)} {pos : Pos} {it : Q8 → Out (List D)} {g : GT} {t : Q8 → Out Bool} {e : M8} {js : List Nat}
abbrev PTX (X : Cx) (W : WX) (p : Bool) (ifs : List Expr) (t : Q8 → Out Bool) : Prop := PTs X ifs (Rd X.K X.mg W p relB t)
theorem ptsW {es : List Expr} {t t' : TT} (h : PTs X es t) (k : ∀ σ H Q, t' σ H Q → t σ H Q) : PTs X es t' := ⟨fun pins s σ H Q I hq => h.run pins s σ H Q I (k _ _ _ hq)⟩
theorem ptx_nil : PTX X W true [] tyes := ptsW pts_nil fun σ H Q ⟨q, w, R, c⟩ => c true H w Fr.refl R rfl
theorem ptx_one {c : Expr} {p : Bool} (h : PXt X W p c t) : PTX X W p [c] t := pts_one h
theorem ptx_loose {p : Bool} (h : PTX X W p ifs t) : PTX X W false ifs t := ptsW h fun σ H Q ⟨q, w, R, c⟩ => ⟨q, w, R, c.loose⟩
def ARl (K : PySem.W.Frag) (mg : Str → Option Value) (m : List Addr) (ow : Addr → Prop) (H : Hp) (Da : Addr) (acc : List D) (o : HO) : Prop := ∃ vs, o = .lst vs ∧ DReps K mg m ow H acc vs
theorem rd_lc {vs : List Nat} (hj : ∀ i ∈ js, i ∈ vs) (hv : v = true → p1 = true) {σ : L2.St} {H : Hp} {Q : VK} (h : Rd X.K X.mg W (p0 && p1) (VD X.K X.mg false) (mlc it g t e vs) σ H Q) :
    tLc (RdI X.K X.mg W v p0 it) (RdG X.K X.mg js g) (Rd X.K X.mg W00 p1 relB t) (Rd X.K X.mg W00 p1 (VD X.K X.mg false) e) vs σ H Q :=
  comp_of (o0 := fun _ => .lst []) (stp := fun σ2 H3 D Nx => Rd X.K X.mg W00 p1 (VD X.K X.mg false) e σ2 H3 fun y H4 => ∃ acc, H4 D = some (.lst acc) ∧ acc.length < sizeLine ∧ Nx (upd H4 D (.lst (acc ++ [y])))) (ARl X.K X.mg)
    (fun x ⟨vs, e, r⟩ => ⟨vs, e, r.mono x⟩) ⟨[], rfl, (show DReps _ _ _ _ _ [] [] from rfl)⟩ (fun {acc q σ H w Da o Nx} R hro hD ⟨vs, eo, r⟩ hm => by
      refine ⟨q, w.plus Da, R, ?_⟩
      unfold Ct
      unfold stL bnd mop Ok8 at hm
      cases ee : e q with
      | no => rw [ee] at hm; exact hm
      | exc x q' => rw [ee] at hm; exact hm.elim
      | ok y q' =>
        rw [ee] at hm
        dsimp only at hm
        intro x H4 w4 F4 R4 rx
        obtain ⟨ew, er⟩ := plus_of F4.oo F4.ro
        have hD4 : H4 Da = some (.lst vs) := by rw [← eo]; exact F4.keep _ _ hD fun z => R.apart Da z (.inr rfl)
        have r4 := r.mono F4.mo
        have hl := r4.length
        by_cases hz : acc.length < sizeLine
        · simp only [hz, if_true] at hm
          rw [ew] at R4 r4 rx F4
          refine ⟨vs, hD4, by omega, hm H4 (w4.minus w) (.lst (vs ++ [x])) F4 rfl (R4.at (by rw [er]; exact hro)) ⟨vs ++ [x], rfl, (r4.append (show DReps X.K X.mg _ _ _ [y] [x] from ⟨x, [], rfl, rx, rfl⟩)).mono (mo_at (w := w4.minus w) (l := []) (by simp))⟩⟩
        · simp only [hz, if_false] at hm) hj hv (fun {acc q H w Da o} R ⟨vs, eo, r⟩ hD hn c => (show Ct X.K X.mg W p1 (VD X.K X.mg false) (mret (.lst acc)) q w σ H Q from c).fin R (.ref Da) H (fun _ _ z => z) (show DRep X.K X.mg w.m w.ow H (.lst acc) (.ref Da) from ⟨Da, vs, rfl, by rw [hD, eo], hn, r⟩)) h
theorem px_lc (hc : X.calm = true) (hN : X.N.Nodup) (hi : PIX X W v p0 tg iter it) (ok : BlkOk X.N X.env.scope scope own)
    (hg : ∀ (s : Shared) (H : Hp) (C : Addr) (cl : List (Str × Addr)) (fp : List Addr), PGX (X.blk s H scope (compEnvC scope cl C X.env) fp) js tg g)
    (ht : ∀ (s : Shared) (H : Hp) (C : Addr) (cl : List (Str × Addr)) (fp : List Addr), PTX (X.blk s H scope (compEnvC scope cl C X.env) fp) W00 p1 ifs t)
    (he : ∀ (s : Shared) (H : Hp) (C : Addr) (cl : List (Str × Addr)) (fp : List Addr), PX (X.blk s H scope (compEnvC scope cl C X.env) fp) W00 false p1 elt e)
    (hs : ∀ x, foldedSetIterable iter X.env x = pure x := by intro _; rfl) (hj : ∀ i ∈ js, i ∈ own.map (·.2) := by decide) (hv : v = true → p1 = true := by decide) : PX X W false (p0 && p1) (.ListComp elt [⟨tg, iter, ifs, 0⟩] scope pos) (mlc it g t e (own.map (·.2))) :=
  peW (pe_lc hc hN hi ok hg ht he hs) fun _ _ _ h => rd_lc hj hv h
theorem sx_setLc {i : Nat} {y : Str} {py : Pos} {spos : Pos} (hc : X.calm = true) (hN : X.N.Nodup) (hi : PIX X W v p0 tg iter it) (ok : BlkOk X.N X.env.scope scope own)
    (hg : ∀ (s : Shared) (H : Hp) (C : Addr) (cl : List (Str × Addr)) (fp : List Addr), PGX (X.blk s H scope (compEnvC scope cl C X.env) fp) js tg g)
    (ht : ∀ (s : Shared) (H : Hp) (C : Addr) (cl : List (Str × Addr)) (fp : List Addr), PTX (X.blk s H scope (compEnvC scope cl C X.env) fp) W00 p1 ifs t)
    (he : ∀ (s : Shared) (H : Hp) (C : Addr) (cl : List (Str × Addr)) (fp : List Addr), PX (X.blk s H scope (compEnvC scope cl C X.env) fp) W00 false p1 elt e)
    (hy : X.N[i]? = some y := by rfl) (hyl : X.env.scope.names.lookup y = some .local := by rfl) (hsw : swapsWith (.ListComp elt [⟨tg, iter, ifs, 0⟩] scope pos) (some (.Name y py)) spos.line X.env = pure true := by rfl)
    (hs : ∀ x, foldedSetIterable iter X.env x = pure x := by intro _; rfl) (hj : ∀ i ∈ js, i ∈ own.map (·.2) := by decide) (hv : v = true → p1 = true := by decide) :
    SX X W (.Assign [.Name y py] (.ListComp elt [⟨tg, iter, ifs, 0⟩] scope pos) spos) (sset i (mlc it g t e (own.map (·.2)))) :=
  psW (ps_setLc hc hN hy hyl hsw hi ok hg ht he hs) fun Dn σ H ⟨q, w, R, h⟩ => by
    have h' : Rd X.K X.mg W (p0 && p1) (VD X.K X.mg false) (mlc it g t e (own.map (·.2))) σ H fun x H1 => gName i x σ H1 Dn.nx := ⟨q, w, R, h.bnd fun d q1 x H1 w1 e1 F1 R1 r1 h1 => ctS_set R1 r1 h1⟩
    exact rd_lc hj hv h'
end
end Fy

set_option maxHeartbeats 1000000
namespace Fy
open PySem PySem.Spec PyProof.Rows L2

/-! ### owned things let go -/
mutual
def freeze : T → D
  | .d x => x
  | .fl xs => .lst xs
  | .fd t ks vs => .dic t ks vs
  | .nl ts => .lst (freezes ts)
  | .tp ts => .tup (freezes ts)
def freezes : List T → List D
  | [] => []
  | t :: ts => freeze t :: freezes ts
end
section
variable {K : PySem.W.Frag} {mg : Str → Option Value} {m : List Addr} {ow ow' : Addr → Prop} {H : Hp}
mutual
theorem TRep.freeze : ∀ {t : T} {v : V} {l : List Addr}, TRep K mg m ow H t v l → (∀ a, ow' a → ow a) → (∀ a ∈ l, ¬ ow' a) → DRep K mg m ow' H (freeze t) v
  | .d x, v, l, ⟨h, _⟩, hs, hl => h.mono (l := []) ⟨List.prefix_refl _, fun _ _ e _ => e, fun a _ n z => n (hs a z)⟩
  | .fl xs, v, l, ⟨a, vs, e, h, r, el⟩, hs, hl => ⟨a, vs, e, h, hl a (by rw [el]; simp), r.mono (l := []) ⟨List.prefix_refl _, fun _ _ e _ => e, fun a _ n z => n (hs a z)⟩⟩
  | .fd t ks xs, v, l, ⟨a, vs, o, e, h, c, r, el⟩, hs, hl => ⟨a, vs, o, e, h, hl a (by rw [el]; simp), c, r.mono (l := []) ⟨List.prefix_refl _, fun _ _ e _ => e, fun a _ n z => n (hs a z)⟩⟩
  | .nl ts, v, l, ⟨a, vs, l', e, h, r, el⟩, hs, hl => ⟨a, vs, e, h, hl a (by rw [el]; simp), TReps.freeze r hs fun b hb => hl b (by rw [el]; exact List.mem_cons_of_mem _ hb)⟩
  | .tp ts, v, l, ⟨a, vs, e, t, r⟩, hs, hl => ⟨a, vs, e, t.mono (l := []) ⟨List.prefix_refl m, fun _ _ e _ => e, fun a _ n z => n (hs a z)⟩, TReps.freeze r hs hl⟩
theorem TReps.freeze : ∀ {ts : List T} {vs : List V} {l : List Addr}, TReps K mg m ow H ts vs l → (∀ a, ow' a → ow a) → (∀ a ∈ l, ¬ ow' a) → DReps K mg m ow' H (freezes ts) vs
  | [], _, _, ⟨h, _⟩, _, _ => h
  | t :: ts, _, _, ⟨v, r, l1, l2, e, h1, h2, el⟩, hs, hl => ⟨v, r, e, TRep.freeze h1 hs fun a ha => hl a (by rw [el]; exact List.mem_append_left _ ha), TReps.freeze h2 hs fun a ha => hl a (by rw [el]; exact List.mem_append_right _ ha)⟩
end
end

/-! ### readings of owned things -/
def CtT (K : PySem.W.Frag) (mg : Str → Option Value) (W : WX) (p : Bool) (m : Q8 → Out T) (q : Q8) (w : Wd) (σ : L2.St) (H : Hp) (Q : VK) : Prop :=
  match m q with
  | .ok t q' => ∀ x H' w' l, Fr p H w H' w' → RetOk K mg H w t x H' w' l → Rp K mg q' σ H' (w'.plusl l) → Q x H'
  | .exc e q' => ∀ c a H' w', Fr p H w H' w' → Rp K mg q' σ H' w' → XRep K mg w'.m w'.ow H' e c a → W c a σ H'
  | .no => False
def RdT (K : PySem.W.Frag) (mg : Str → Option Value) (W : WX) (p : Bool) (m : Q8 → Out T) : TE := fun σ H Q => ∃ q w, Rp K mg q σ H w ∧ CtT K mg W p m q w σ H Q
abbrev PXT (X : Cx) (W : WX) (p : Bool) (e : Expr) (m : Q8 → Out T) : Prop := PE X e (RdT X.K X.mg W p m)
def fz (m : Q8 → Out T) : M8 := bnd m fun t => mret (freeze t)
def mD (m : M8) : Q8 → Out T := bnd m fun d => mret (.d d)
section
variable {X : Cx} {W : WX} {p p0 : Bool} {e : Expr} {m : Q8 → Out T}
theorem RetOk.data {K : PySem.W.Frag} {mg : Str → Option Value} {H H' : Hp} {w w' : Wd} {t : T} {x : V} {l : List Addr} (r : RetOk K mg H w t x H' w' l) : DRep K mg w'.m w'.ow H' (freeze t) x :=
  r.rep.freeze (fun a h => .inl h) fun a ha => (r.own a ha).1
theorem px_fz (h : PXT X W p e m) : PX X W false p e (fz m) := peW h fun σ H Q ⟨q, w, R, c⟩ => ⟨q, w, R, by
  unfold Ct fz bnd at c
  unfold CtT
  cases em : m q with
  | no => rw [em] at c; exact c
  | exc x q' => rw [em] at c; exact c
  | ok t q' =>
    rw [em] at c
    exact fun x H' w' l F r R' => c x H' w' F (R'.minusl fun a z => by rw [r.fr.oo]; rw [r.fr.ro] at z; exact R.ro a z) r.data⟩
theorem pxt_loose (h : PXT X W p e m) : PXT X W false e m := peW h fun σ H Q ⟨q, w, R, c⟩ => ⟨q, w, R, by
  unfold CtT at c ⊢
  cases em : m q with
  | no => rw [em] at c; exact c
  | exc x q' => rw [em] at c; exact fun c1 a H' w' F R z => c c1 a H' w' F.loose R z
  | ok t q' =>
    rw [em] at c
    exact fun x H' w' l F r R' => c x H' w' l F.loose r R'⟩
theorem RetOk.ofD {K : PySem.W.Frag} {mg : Str → Option Value} {H H' : Hp} {w w' : Wd} {d : D} {x : V} (F : Fr false H w H' w') (r : DRep K mg w'.m w'.ow H' d x) : RetOk K mg H w (.d d) x H' w' [] :=
  ⟨F, fun a ha => absurd ha (by simp), List.nodup_nil, r.mono (l := []) ⟨List.prefix_refl _, fun _ _ e _ => e, fun a _ n z => z.elim n fun z => absurd z (by simp)⟩, rfl⟩
/-- data as an owned thing -/
theorem pxt_D {m : M8} (h : PX X W false p e m) : PXT X W p e (mD m) := peW h fun σ H Q ⟨q, w, R, c⟩ => ⟨q, w, R, by
  unfold CtT mD bnd at c
  unfold Ct
  cases em : m q with
  | no => rw [em] at c; exact c
  | exc x q' => rw [em] at c; exact c
  | ok d q' =>
    rw [em] at c
    exact fun x H' w' F R' r => c x H' w' [] F (RetOk.ofD F.loose r) R'.plusl0⟩
/-- what is made from what was read -/
theorem CtT.bnd {K : PySem.W.Frag} {mg : Str → Option Value} {γ δ : Type} {rel1 : Rl γ δ} {p2 : Bool} {q : Q8} {w : Wd} {σ : L2.St} {H : Hp} {m : Q8 → Out γ} {f : γ → Q8 → Out T} {Q : VK} {Q' : δ → Hp → Prop} (h : CtT K mg W (p && p2) (Fy.bnd m f) q w σ H Q)
    (k : ∀ d q1 x H1 w1, m q = .ok d q1 → Fr p H w H1 w1 → Rp K mg q1 σ H1 w1 → rel1 w1 H1 d x → CtT K mg W p2 (f d) q1 w1 σ H1 Q → Q' x H1) : Ct K mg W p rel1 m q w σ H Q' := by
  unfold CtT Fy.bnd at h
  unfold Ct
  cases e : m q with
  | no => rw [e] at h; exact h
  | exc x q' =>
    rw [e] at h
    intro c a H' w' F R X
    exact h c a H' w' (F.wk (fun z => by simp only [Bool.and_eq_true] at z; exact z.1)) R X
  | ok d q1 =>
    rw [e] at h
    intro x H1 w1 F R r
    refine k d q1 x H1 w1 e F R r ?_
    unfold CtT
    simp only at h
    cases e2 : f d q1 with
    | no => rw [e2] at h; exact h
    | exc x q' =>
      rw [e2] at h
      intro c a H' w' F2 R2 X
      exact h c a H' w' (F.trans F2) R2 X
    | ok t q2 =>
      rw [e2] at h
      intro x2 H2 w2 l F2 r2 R2
      exact h x2 H2 w2 l (F.trans F2) (r2.trans F) R2
theorem CtT.rt {K : PySem.W.Frag} {mg : Str → Option Value} {q : Q8} {w : Wd} {σ : L2.St} {H : Hp} {Q : VK} (c : CtT K mg W p m q w σ H Q) : CtT K mg W (p && true) m q w σ H Q := by rw [Bool.and_true]; exact c
theorem Rp.cast {K : PySem.W.Frag} {mg : Str → Option Value} {q : Q8} {w : Wd} {σ : L2.St} {H : Hp} {a : Addr} (R : Rp K mg q σ H (w.plus a)) : Rp K mg q σ H (w.plusl [a]) := by
  have e : w.plus a = w.plusl [a] := by
    unfold Wd.plus Wd.plusl
    congr
    funext b
    simp
  rwa [← e]
/-- a new list -/
def tmlst (ms : Q8 → Out (List D)) : Q8 → Out T := bnd ms fun ds q => if ds.length ≤ sizeLine then .ok (.fl ds) q else .no
theorem new_fl {K : PySem.W.Frag} {mg : Str → Option Value} {q : Q8} {w : Wd} {σ : L2.St} {H : Hp} {a : Addr} {xs : List D} {vs : List V} (R : Rp K mg q σ H w) (hn : H a = none) (r : DReps K mg w.m w.ow H xs vs) :
    Fr p H w (upd H a (.lst vs)) w ∧ RetOk K mg H w (.fl xs) (.ref a) (upd H a (.lst vs)) w [a] ∧ Rp K mg q σ (upd H a (.lst vs)) (w.plusl [a]) :=
  ⟨Fr.ext (upd_keep hn), ⟨Fr.ext (upd_keep hn), fun b hb => by
    cases (show b = a by simpa using hb)
    exact ⟨fun z => R.there _ z hn, .inl hn, by rw [upd_same]; simp⟩, by simp, a, vs, rfl, upd_same, r.mono (l := []) ⟨List.prefix_refl _, fun b o e _ => upd_keep hn b o e, fun b e n z => by
      rcases z with z | z
      · exact n z
      · exact e (by rw [show b = a by simpa using z]; exact hn)⟩, rfl⟩, (R.plus hn).cast⟩
theorem pxt_lst {es : List Expr} {ms : Q8 → Out (List D)} {pos : Pos} (h : PXa X W p es ms) : PXT X W p (.List es pos) (tmlst ms) :=
  peW (pe_lst h) fun σ H Q ⟨q, w, R, c⟩ => ⟨q, w, R, (CtT.rt c).bnd fun ds q1 xs H1 w1 e1 F1 R1 r1 c1 => by
    unfold CtT at c1
    dsimp only at c1
    have l := DReps.length r1
    by_cases hz : ds.length ≤ sizeLine
    · rw [if_pos hz] at c1
      refine ⟨by omega, fun a ha => ?_⟩
      obtain ⟨F, r, R'⟩ := new_fl (p := true) R1 ha r1
      exact c1 _ _ _ _ F r R'
    · rw [if_neg hz] at c1
      exact c1.elim⟩
end

/-! ### functions -/
inductive FO where
  | ok (t : T) (s : List I8) | exc (e : Xn) (s : List I8) | no
abbrev FF := List D → List I8 → Bool → FO
def SpF (K : PySem.W.Frag) (mg : Str → Option Value) (n : Nat) (F : FF) : Sp := fun vs H Q E => vs.length = n ∧ ∃ S b w ds, Rp K mg ⟨[], S, b⟩ [] H w ∧ DReps K mg w.m w.ow H ds vs ∧ match F ds S b with
  | .ok t S' => ∀ x H' w' l, RetOk K mg H w t x H' w' l → Rp K mg ⟨[], S', b⟩ [] H' (w'.plusl l) → Q x H'
  | .exc e S' => ∀ c a H' w', Fr false H w H' w' → Rp K mg ⟨[], S', b⟩ [] H' w' → XRep K mg w'.m w'.ow H' e c a → E c a H'
  | .no => False
def slots0 (N : Nat) (ds : List D) : List (Option T) := ds.map (fun d => some (.d d)) ++ List.replicate (N - ds.length) none
def runF (N : Nat) (body : S8) : FF := fun ds S b => match body ⟨slots0 N ds, S, b⟩ with
  | .ok (.rt t) q => if q.w = b then .ok t q.s else .no
  | .ok .nx q => if q.w = b then .ok (.d .non) q.s else .no
  | .exc e q => if q.w = b then .exc e q.s else .no
  | _ => .no
section
variable {K : PySem.W.Frag} {mg : Str → Option Value} {m : List Addr} {ow : Addr → Prop} {H : Hp}
theorem ERep.nones : ∀ (n : Nat), ERep K mg m ow H (List.replicate n none) (List.replicate n none) []
  | 0 => ⟨rfl, rfl⟩
  | n + 1 => ⟨none, List.replicate n none, rfl, ERep.nones n⟩
theorem ERep.args {n : Nat} : ∀ {ds : List D} {vs : List V}, DReps K mg m ow H ds vs → ERep K mg m ow H (ds.map (fun d => some (.d d)) ++ List.replicate n none) (vs.map some ++ List.replicate n none) []
  | [], _, h => by
    cases (show _ = [] from h)
    exact ERep.nones n
  | d :: ds, _, ⟨v, r, e, h1, h2⟩ => by
    subst e
    exact ⟨v, _, [], [], rfl, ⟨h1, rfl⟩, ERep.args h2, rfl⟩
theorem Rp.args {S : List I8} {b : Bool} {w : Wd} {ds : List D} {vs : List V} {N : List Str} (R : Rp K mg ⟨[], S, b⟩ [] H w) (h : DReps K mg w.m w.ow H ds vs) : Rp K mg ⟨slots0 N.length ds, S, b⟩ (L2.start N vs) H w where
  ex := by
    obtain ⟨l1, l2, ⟨_, e1⟩, h2, nd, hw⟩ := R.ex
    subst e1
    have l := h.length
    refine ⟨[], l2, ?_, h2, nd, hw⟩
    unfold slots0 L2.start
    rw [l]
    exact ERep.args h
  ro := R.ro
  apart := R.apart
  there := R.there
theorem XRep.mono {m m' : List Addr} {ow ow' : Addr → Prop} {H H' : Hp} {e : Xn} {c : Value} {a : Option Addr} (x : Mo m m' ow ow' [] H H') (h : XRep K mg m ow H e c a) : XRep K mg m' ow' H' e c a := by
  obtain ⟨C, h1, h2, h3⟩ := h
  refine ⟨C, h1, h2, h3.imp id ?_⟩
  rintro ⟨b, vs, e1, e2, n, r⟩
  exact ⟨b, vs, e1, x.k b _ e2 (.inl n), x.o b (by rw [e2]; simp) n, r.mono x⟩
end
theorem fn_F {P : Program} {w : World} {K : PySem.W.Frag} {mg : Str → Option Value} {base : Heap} {x qual : Str} {st : Stmt} {f : Addr} {fd : FuncData} {N ps : List Str} {k n : Nat} {body : S8} (F : L2.Fun K x qual st f fd) (S : FnScope N ps (defScope st)) (hn : n = ps.length)
    (hbody : ∀ (cdv : Value) (A : Around) (outer : List Env) (s : Shared) (H : Hp) (E : XK), Room k (A.deeper (envOfC qual (defScope st) s.heap.objs.size f cdv)) →
      SXs (cxOf (L2.CX P w) P w K mg base N qual (defScope st) f cdv A outer s H E) (fun c d _ H => E c d H) (defBody st) body) : FnOk P w K mg base (L2.CX P w) (k + 1) f fd ps (SpF K mg n (runF N.length body)) :=
  Fun.okX F S (fun vs H Q E h => h.1.trans hn) fun cdv A outer s H vs Q E hr ⟨_, S, b, w, ds, R, r, h⟩ => ⟨_, hbody cdv A outer s H E hr, ⟨slots0 N.length ds, S, b⟩, w, R.args r, by
    unfold runF at h
    unfold CtS
    cases eb : body ⟨slots0 N.length ds, S, b⟩ with
    | no => rw [eb] at h; exact h
    | exc e q' =>
      rw [eb] at h
      dsimp only at h ⊢
      by_cases hb : q'.w = b
      · rw [if_pos hb] at h
        intro σ' c a H' w' F R' z
        obtain ⟨w2, R2, F2, em, eo, _⟩ := R'.drop
        rw [hb] at R2
        exact h c a H' w2 (F.trans F2).loose R2 (z.mono F2.mo)
      · rw [if_neg hb] at h
        exact h.elim
    | ok fl q' =>
      rw [eb] at h
      cases fl with
      | bk => exact h.elim
      | ct => exact h.elim
      | rt t =>
        dsimp only at h ⊢
        by_cases hb : q'.w = b
        · rw [if_pos hb] at h
          intro x H' w' l r R'
          rw [hb] at R'
          exact h x H' w' l r R'
        · rw [if_neg hb] at h
          exact h.elim
      | nx =>
        dsimp only at h ⊢
        by_cases hb : q'.w = b
        · rw [if_pos hb] at h
          intro σ' H' w' F R'
          obtain ⟨w2, R2, F2, em, eo, _⟩ := R'.drop
          rw [hb] at R2
          exact h .non H' w2 [] (RetOk.ofD (F.trans F2).loose rfl) R2.plusl0
        · rw [if_neg hb] at h
          exact h.elim⟩
end Fy

set_option maxHeartbeats 1000000
namespace Fy
open PySem PySem.Spec PyProof.Rows L2

/-! ### calls -/
section
variable {K : PySem.W.Frag} {mg : Str → Option Value} {q : Q8} {w : Wd} {σ : L2.St} {H : Hp}
theorem SReps.length {m : List Addr} {ow : Addr → Prop} : ∀ {S : List I8} {as l : List Addr}, SReps K mg m ow H S as l → S.length = as.length
  | [], _, _, ⟨e, _⟩ => by rw [e]; rfl
  | _ :: _, _, _, ⟨a, r, l1, l2, e, _, h, _⟩ => by rw [e, List.length_cons, List.length_cons, SReps.length h]
theorem Rp.callee (R : Rp K mg q σ H w) : ∃ wc : Wd, Rp K mg ⟨[], q.s, q.w⟩ [] H wc ∧ wc.m = w.m ∧ (∀ a, wc.ow a ↔ w.ow a) ∧ (∀ a, a ∈ wc.fp → a ∈ w.fp) ∧
    ∀ (H' : Hp) (w' : Wd) (S' : List I8) (l : List Addr), Fr false H wc H' w' → (∀ a ∈ l, ¬ w'.ow a ∧ (H a = none ∨ a ∈ wc.fp)) → Rp K mg ⟨[], S', q.w⟩ [] H' (w'.plusl l) → ∃ w'' : Wd, Fr false H w H' w'' ∧ Rp K mg { q with s := S' } σ H' (w''.plusl l) ∧ w''.m = w'.m ∧ ∀ a, w''.ow a ↔ w'.ow a := by
  obtain ⟨l1, l2, h1, h2, nd, hw⟩ := R.ex
  obtain ⟨n1, n2, n12⟩ := List.nodup_append.mp nd
  -- either way: what the callee may write
  have key : ∀ fc : List Addr, w.fp = l1 ++ fc → (q.w = true ∧ fc = l2 ∨ q.w = false ∧ fc = [] ∧ ∀ a ∈ l2, w.ro a) → (∀ a ∈ l1, a ∉ fc) → ∃ wc : Wd, Rp K mg ⟨[], q.s, q.w⟩ [] H wc ∧ wc.m = w.m ∧ (∀ a, wc.ow a ↔ w.ow a) ∧ (∀ a, a ∈ wc.fp → a ∈ w.fp) ∧
    ∀ (H' : Hp) (w' : Wd) (S' : List I8) (l : List Addr), Fr false H wc H' w' → (∀ a ∈ l, ¬ w'.ow a ∧ (H a = none ∨ a ∈ wc.fp)) → Rp K mg ⟨[], S', q.w⟩ [] H' (w'.plusl l) → ∃ w'' : Wd, Fr false H w H' w'' ∧ Rp K mg { q with s := S' } σ H' (w''.plusl l) ∧ w''.m = w'.m ∧ ∀ a, w''.ow a ↔ w'.ow a := by
    intro fc efp hc ap
    have in1 : ∀ a ∈ l1, a ∈ w.fp := fun a h => by rw [efp]; exact List.mem_append_left _ h
    have inc : ∀ a ∈ fc, a ∈ w.fp := fun a h => by rw [efp]; exact List.mem_append_right _ h
    have iff1 : ∀ a, Wd.ow ⟨w.m, fc, fun a => w.oo a ∨ a ∈ l1, w.ro⟩ a ↔ w.ow a := fun a => by
      unfold Wd.ow
      rw [efp, List.mem_append]
      constructor
      · rintro (h | h | h)
        · exact .inl (.inr h)
        · exact .inr h
        · exact .inl (.inl h)
      · rintro ((h | h) | h)
        · exact .inr (.inr h)
        · exact .inl h
        · exact .inr (.inl h)
    refine ⟨⟨w.m, fc, fun a => w.oo a ∨ a ∈ l1, w.ro⟩, ⟨⟨[], l2, ⟨rfl, rfl⟩, h2.mono ⟨List.prefix_refl _, fun _ _ e _ => e, fun a _ n z => n ((iff1 a).mp z)⟩, by simpa using n2, ?_⟩, fun a h => .inl (R.ro a h), fun a h z => ?_, fun a h => R.there a ((iff1 a).mp h)⟩, rfl, iff1, inc, fun H' w' S' l F hl R' => ?_⟩
    · rcases hc with ⟨e1, e2⟩ | ⟨e1, e2, e3⟩
      · exact .inl ⟨e1, by simpa using e2⟩
      · exact .inr ⟨e1, e2, e3⟩
    · rcases z with z | z
      · exact R.apart a (inc a h) z
      · exact ap a z h
    · obtain ⟨l1', l2', ⟨_, e1'⟩, h2', nd', hw'⟩ := R'.ex
      subst e1'
      have eo : w'.oo = fun a => w.oo a ∨ a ∈ l1 := F.oo
      have er : w'.ro = w.ro := F.ro
      have iff2 : ∀ a, Wd.ow ⟨w'.m, l1 ++ w'.fp, w.oo, w.ro⟩ a ↔ w'.ow a := fun a => by
        unfold Wd.ow
        rw [eo, List.mem_append]
        constructor
        · rintro ((h | h) | h)
          · exact .inr (.inr h)
          · exact .inl h
          · exact .inr (.inl h)
        · rintro (h | h | h)
          · exact .inl (.inr h)
          · exact .inr h
          · exact .inl (.inl h)
      have FF : Fr false H w H' ⟨w'.m, l1 ++ w'.fp, w.oo, w.ro⟩ := ⟨fun a o e n => F.keep a o e fun z => n (inc a z), fun a e n z => by
        rcases List.mem_append.mp z with z | z
        · exact n (in1 a z)
        · exact F.out a e (fun z => n (inc a z)) z, rfl, rfl, F.m, fun h => nomatch h⟩
      have iff3 : ∀ a, Wd.ow (Wd.plusl ⟨w'.m, l1 ++ w'.fp, w.oo, w.ro⟩ l) a ↔ (w'.plusl l).ow a := fun a => by rw [plusl_ow, plusl_ow, iff2]
      refine ⟨⟨w'.m, l1 ++ w'.fp, w.oo, w.ro⟩, FF, ⟨⟨l1, l2', h1.mono ⟨F.m, fun a o e z => ?_, fun a e n z => ?_⟩, h2'.mono ⟨List.prefix_refl _, fun _ _ e _ => e, fun a _ n z => n ((iff3 a).mp z)⟩, ?_, ?_⟩, fun a h => .inl (R.ro a h), fun a h z => ?_, fun a h => R'.there a ((iff3 a).mp h)⟩, rfl, iff2⟩
      · rcases z with z | z
        · exact F.keep a o e fun h => z (.inl (inc a h))
        · exact F.keep a o e (ap a z)
      · rcases plusl_ow.mp z with z | z
        · exact FF.mo.o a e n z
        · rcases (hl a z).2 with y | y
          · exact e y
          · exact n (.inl (inc a y))
      · refine List.nodup_append.mpr ⟨n1, by simpa using nd', fun a ha b hb e => ?_⟩
        subst e
        rcases hw' with ⟨_, e2⟩ | ⟨_, _, e3⟩
        · exact R'.apart a (by rw [e2]; simpa using hb) (.inl (by rw [eo]; exact .inr ha))
        · exact R.apart a (in1 a ha) (R.ro a (by rw [← er]; exact e3 a hb))
      · rcases hw' with ⟨e1, e2⟩ | ⟨e1, e2, e3⟩
        · exact .inl ⟨e1, by show l1 ++ w'.fp = _; rw [show w'.fp = _ from e2]; rfl⟩
        · exact .inr ⟨e1, by show l1 ++ w'.fp = _; rw [show w'.fp = _ from e2, List.append_nil], fun a ha => by have : w'.ro a := e3 a ha; rwa [er] at this⟩
      · rcases z with z | z
        · rcases List.mem_append.mp h with h | h
          · exact R.apart a (in1 a h) z
          · exact R'.apart a h (.inl (by rw [eo]; exact .inl z))
        · exact (hl a z).1 ((iff2 a).mp (.inl h))
  rcases hw with ⟨e1, e2⟩ | ⟨e1, e2, e3⟩
  · exact key l2 e2 (.inl ⟨e1, rfl⟩) fun a ha hb => n12 a ha a hb rfl
  · exact key [] (by rw [e2, List.append_nil]) (.inr ⟨e1, rfl, e3⟩) fun a ha hb => absurd hb (by simp)
/-- a reader: nothing may be written -/
theorem Rp.reader (R : Rp K mg q σ H w) : ∃ wc : Wd, Rp K mg ⟨[], q.s, false⟩ [] H wc ∧ wc.m = w.m ∧ (∀ a, wc.ow a ↔ w.ow a) ∧ wc.fp = [] ∧
    ∀ (H' : Hp) (w' : Wd) (S' : List I8) (l : List Addr), Fr false H wc H' w' → Rp K mg ⟨[], S', false⟩ [] H' (w'.plusl l) → S'.length = q.s.length → (∀ a o, H a = some o → H' a = some o) ∧ w'.m = w.m ∧ ∀ a, w'.ow a ↔ w.ow a := by
  obtain ⟨l1, l2, h1, h2, nd, hw⟩ := R.ex
  have in2 : ∀ a ∈ l2, w.ow a := fun a h => by
    rcases hw with ⟨_, e⟩ | ⟨_, _, e⟩
    · exact .inl (by rw [e]; exact List.mem_append_right _ h)
    · exact .inr (R.ro a (e a h))
  have iff1 : ∀ a, Wd.ow ⟨w.m, [], w.ow, fun a => a ∈ l2⟩ a ↔ w.ow a := fun a => ⟨fun h => h.elim (fun z => absurd z (by simp)) id, .inr⟩
  refine ⟨⟨w.m, [], w.ow, fun a => a ∈ l2⟩, ⟨⟨[], l2, ⟨rfl, rfl⟩, h2.mono ⟨List.prefix_refl _, fun _ _ e _ => e, fun a _ n z => n ((iff1 a).mp z)⟩, by simpa using (List.nodup_append.mp nd).2.1, .inr ⟨rfl, rfl, fun _ h => h⟩⟩, in2, fun a h => absurd h (by simp), fun a h => R.there a ((iff1 a).mp h)⟩, rfl, iff1, rfl, fun H' w' S' l F R' hl => ?_⟩
  obtain ⟨l1', l2', ⟨_, e1'⟩, h2', nd', hw'⟩ := R'.ex
  subst e1'
  have efp : w'.fp = [] := by
    rcases hw' with ⟨e, _⟩ | ⟨_, e, _⟩
    · cases e
    · exact e
  have eo : w'.oo = w.ow := F.oo
  refine ⟨fun a o e => F.keep a o e (by simp), ?_, fun a => ?_⟩
  · have p : w.m <+: w'.m := F.m
    exact (p.eq_of_length (by rw [← h2.length, show w'.m.length = S'.length from h2'.length.symm, hl])).symm
  · unfold Wd.ow
    rw [efp, eo]
    exact ⟨fun h => h.elim (fun z => absurd z (by simp)) id, .inr⟩
end

/-- a def, as a function -/
structure Fd (P : Program) (w : World) (K : PySem.W.Frag) (mg : Str → Option Value) (base : Heap) (k : Nat) (x : Str) (n : Nat) (F : FF) : Prop where
  ex : ∃ f fd ps, FnOk P w K mg base (L2.CX P w) k f fd ps (SpF K mg n F) ∧ mg x = some (.ref f) ∧ PySem.W.keepIn K (.ref f) = true ∧ Binds K fd ps []
def tcall (n : Nat) (F : FF) (ms : Q8 → Out (List D)) : Q8 → Out T := bnd ms fun ds q => if ds.length = n then match F ds q.s q.w with
  | .ok t S' => .ok t { q with s := S' }
  | .exc e S' => .exc e { q with s := S' }
  | .no => .no
  else .no
def mcall (n : Nat) (F : FF) (ms : Q8 → Out (List D)) : M8 := bnd ms fun ds q => if ds.length = n then match F ds q.s false with
  | .ok t S' => if S'.length = q.s.length then .ok (freeze t) q else .no
  | .exc e S' => if S'.length = q.s.length then .exc e q else .no
  | .no => .no
  else .no
section
variable {X : Cx} {W : WX} {p : Bool} {x : Str} {n k : Nat} {F : FF} {e : Expr} {es : List Expr} {ms : Q8 → Out (List D)} {ps pos : Pos}
/-- f(..), reading alone -/
theorem px_call (h : Fd X.prog X.w X.K X.mg X.base k x n F) (hr : Room k X.A) (tk : Takes X W) (ha : PXa X W p (e :: es) ms) (hg : Gl X x := by rfl) (hdb : (x == ("__debug__" : Str)) = false := by decide)
    (he : starEach (e :: es) X.env = (false, eval e X.env) :: starEach es X.env := by rfl) (hpl : (backTo pos (starEach es X.env)).any (·.1) = false := by rfl) : PX X W false p (.Call (.Name x ps) (e :: es) [] pos) (mcall n F ms) := by
  obtain ⟨f, fd, prs, fo, hm, hk, hb⟩ := h.ex
  refine peW (pe_callS fo hr hg hm hk hb (fun σ => passAt tk σ) ha hdb he hpl) fun σ H Q ⟨q, w, R, c⟩ => ⟨q, w, R, (ct_rt c).bnd fun ds q1 vs H1 w1 e1 F1 R1 r1 c1 => ?_⟩
  unfold Ct at c1
  dsimp only at c1
  by_cases hn : ds.length = n
  · rw [if_pos hn] at c1
    obtain ⟨wc, Rc, em, io, ef, back⟩ := R1.reader
    refine ⟨by rw [← DReps.length r1]; exact hn, q1.s, false, wc, ds, Rc, r1.mono (l := []) ⟨by rw [em]; exact List.prefix_refl _, fun _ _ e _ => e, fun a _ n z => n ((io a).mp z)⟩, ?_⟩
    cases eF : F ds q1.s false with
    | no => rw [eF] at c1; exact c1
    | exc ex S' =>
      rw [eF] at c1
      dsimp only at c1
      by_cases hl : S'.length = q1.s.length
      · rw [if_pos hl] at c1
        intro cc a H' w' F' R' z
        obtain ⟨kp, em', io'⟩ := back H' w' S' [] F' R'.plusl0 hl
        exact c1 cc a H' w1 (Fr.ext kp) (R1.ext kp) (z.mono ⟨by rw [em']; exact List.prefix_refl _, fun _ _ e _ => e, fun a _ n z => n ((io' a).mpr z)⟩)
      · rw [if_neg hl] at c1
        exact c1.elim
    | ok t S' =>
      rw [eF] at c1
      dsimp only at c1
      by_cases hl : S'.length = q1.s.length
      · rw [if_pos hl] at c1
        intro x H' w' l r R'
        obtain ⟨kp, em', io'⟩ := back H' w' S' l r.fr R' hl
        exact c1 x H' w1 (Fr.ext kp) (R1.ext kp) (r.data.mono (l := []) ⟨by rw [em']; exact List.prefix_refl _, fun _ _ e _ => e, fun a _ n z => n ((io' a).mpr z)⟩)
      · rw [if_neg hl] at c1
        exact c1.elim
  · rw [if_neg hn] at c1
    exact c1.elim
/-- f(..), which may write at the store -/
theorem pxt_call (h : Fd X.prog X.w X.K X.mg X.base k x n F) (hr : Room k X.A) (tk : Takes X W) (ha : PXa X W p (e :: es) ms) (hg : Gl X x := by rfl) (hdb : (x == ("__debug__" : Str)) = false := by decide)
    (he : starEach (e :: es) X.env = (false, eval e X.env) :: starEach es X.env := by rfl) (hpl : (backTo pos (starEach es X.env)).any (·.1) = false := by rfl) : PXT X W false (.Call (.Name x ps) (e :: es) [] pos) (tcall n F ms) := by
  obtain ⟨f, fd, prs, fo, hm, hk, hb⟩ := h.ex
  refine peW (pe_callS fo hr hg hm hk hb (fun σ => passAt tk σ) ha hdb he hpl) fun σ H Q ⟨q, w, R, c⟩ => ⟨q, w, R, (CtT.bnd (p := p) (p2 := false) (by rw [Bool.and_false]; exact c) fun ds q1 vs H1 w1 e1 F1 R1 r1 c1 => ?_)⟩
  unfold CtT at c1
  dsimp only at c1
  by_cases hn : ds.length = n
  · rw [if_pos hn] at c1
    obtain ⟨wc, Rc, em, io, ef, back⟩ := R1.callee
    refine ⟨by rw [← DReps.length r1]; exact hn, q1.s, q1.w, wc, ds, Rc, r1.mono (l := []) ⟨by rw [em]; exact List.prefix_refl _, fun _ _ e _ => e, fun a _ n z => n ((io a).mp z)⟩, ?_⟩
    cases eF : F ds q1.s q1.w with
    | no => rw [eF] at c1; exact c1
    | exc ex S' =>
      rw [eF] at c1
      intro cc a H' w' F' R' z
      obtain ⟨w'', FF, R'', em', io'⟩ := back H' w' S' [] F' (fun a ha => absurd ha (by simp)) R'.plusl0
      exact c1 cc a H' w'' FF (R''.minusl fun a z => by rw [FF.oo]; rw [FF.ro] at z; exact R1.ro a z) (z.mono ⟨by rw [em']; exact List.prefix_refl _, fun _ _ e _ => e, fun a _ n z => n ((io' a).mp z)⟩)
    | ok t S' =>
      rw [eF] at c1
      intro x H' w' l r R'
      obtain ⟨w'', FF, R'', em', io'⟩ := back H' w' S' l r.fr (fun a ha => ⟨(r.own a ha).1, (r.own a ha).2.1⟩) R'
      refine c1 x H' w'' l FF ⟨FF, fun a ha => ?_, r.nd, r.rep.mono ⟨by rw [em']; exact List.prefix_refl _, fun _ _ e _ => e, fun a _ n z => n (z.imp (io' a).mp id)⟩⟩ R''
      obtain ⟨o1, o2, o3⟩ := r.own a ha
      exact ⟨fun z => o1 ((io' a).mp z), o2.imp id (ef a), o3⟩
  · rw [if_neg hn] at c1
    exact c1.elim
end
end Fy

set_option maxHeartbeats 1000000
namespace Fy
open PySem PySem.Spec PyProof.Rows L2

/-! ### raise -/
structure XcF (K : PySem.W.Frag) (mg : Str → Option Value) (c : Str) : Prop where
  ex : ∃ C bmB B newId initId, ExcBaseFacts B newId initId bmB ∧ PySem.W.excIn K C bmB newId = true ∧ mg c = some (.ref C) ∧ PySem.W.keepIn K (.ref C) = true ∧ PySem.W.subIn K (.ref C) (.type "BaseException") = some true ∧ PySem.W.typeIn K (.ref C) = some (.type "type")
def sraise (c : Str) : S8 := fun q => .exc ⟨c, []⟩ q
theorem sx_raise {X : Cx} {W : WX} {x m : Str} {j : Nat} {p p2 pos pos' : Pos} (h : XcF X.K X.mg x) (hc : X.calm = true) (tk : Takes X W) (hg : Gl X x := by rfl) (hdb : (x == ("__debug__" : Str)) = false := by decide) :
    SX X W (.Raise (some (.Call (.Name x p) [.Constant (.str m) j p2] [] pos)) none pos') (sraise x) := by
  obtain ⟨C, bmB, B, newId, initId, F, q, gC, kC, s1, t1⟩ := h.ex
  refine psW (ps_raise hc tk (pmk_own F q gC kC (raises_own s1 t1) hg hdb)) fun D σ H ⟨q, w, R, h⟩ => ?_
  exact h σ (.ref C) none H w Fr.refl R ⟨C, gC, rfl, .inl ⟨rfl, rfl⟩⟩

/-! ### owned things in slots -/
def ssetT (i : Nat) (m : Q8 → Out T) : S8 := bnd m fun t q => if i < q.r.length then .ok .nx { q with r := q.r.set i (some t) } else .no
def sretT (m : Q8 → Out T) : S8 := bnd m fun t => mret (.rt t)
/-- a new box -/
def sbox (i : Nat) (m : Q8 → Out T) : S8 := bnd m fun t q => match t with
  | .d _ => .no
  | t => if (datS q.r i && q.w) = true then .ok .nx { q with r := q.r.set i (some (.d (.loc q.s.length))), s := q.s ++ [.box t] } else .no
/-- the owned thing in a slot is handed back -/
def sretO (i : Nat) : S8 := fun q => match q.r[i]? with
  | some (some t) => .ok (.rt t) q
  | _ => .no
section
variable {K : PySem.W.Frag} {mg : Str → Option Value} {q : Q8} {w w' : Wd} {σ : L2.St} {H H' : Hp} {W : WX} {Dn : Ends}
theorem rp_setT {i : Nat} {t : T} {x : V} {l : List Addr} (hro : ∀ a, w.ro a → w.oo a) (hi : i < q.r.length) (r : RetOk K mg H w t x H' w' l) (R : Rp K mg q σ H' (w'.plusl l)) :
    ∃ w'', Rp K mg { q with r := q.r.set i (some t) } (σ.set i (some x)) H' w'' ∧ Fr false H w H' w'' := by
  obtain ⟨l1, l2, h1, h2, nd, hw⟩ := R.ex
  obtain ⟨pre, li, post, el, g, g0, s, z⟩ := h1.split hi
  subst el
  have hro' : ∀ a, w'.ro a → w'.oo a := fun a z => by rw [r.fr.oo]; rw [r.fr.ro] at z; exact hro a z
  have nrest : (pre ++ post ++ l2).Nodup := by
    refine List.Nodup.sublist ?_ nd
    simp only [List.append_assoc]
    exact List.Sublist.append_left (List.sublist_append_right li _) pre
  have sub : ∀ a, a ∈ pre ++ post → a ∈ pre ++ (li ++ post) := fun a ha => by
    simp only [List.mem_append] at ha ⊢
    rcases ha with h | h <;> simp [h]
  have infp : ∀ a, a ∈ pre ++ (li ++ post) → a ∈ w'.fp := fun a ha => by
    rcases hw with ⟨_, e⟩ | ⟨_, e, _⟩
    · rw [show w'.fp = _ from e]; exact List.mem_append_left _ ha
    · rw [show w'.fp = _ from e]; exact ha
  have ap : ∀ a ∈ l, a ∉ pre ++ post ++ l2 := fun a ha hb => by
    rcases List.mem_append.mp hb with hb | hb
    · exact (r.own a ha).1 (.inl (infp a (sub a hb)))
    · rcases hw with ⟨_, e⟩ | ⟨_, _, e⟩
      · exact (r.own a ha).1 (.inl (by rw [show w'.fp = _ from e]; exact List.mem_append_right _ hb))
      · exact (r.own a ha).1 (.inr (hro' a (e a hb)))
  have key : ∀ fp' : List Addr, (∀ a, a ∈ fp' → a ∈ l ∨ a ∈ w'.fp) → ((q.w = true ∧ fp' = pre ++ (l ++ post) ++ l2) ∨ (q.w = false ∧ fp' = pre ++ (l ++ post) ∧ ∀ a ∈ l2, w'.ro a)) →
      ∃ w'', Rp K mg { q with r := q.r.set i (some t) } (σ.set i (some x)) H' w'' ∧ Fr false H w H' w'' := by
    intro fp' hfp hc
    have sow : ∀ a, Wd.ow ⟨w'.m, fp', w'.oo, w'.ro⟩ a → (w'.plusl l).ow a := fun a h => by
      rw [plusl_ow]
      rcases h with h | h
      · exact (hfp a h).elim .inr fun h => .inl (.inl h)
      · exact .inl (.inr h)
    have mo : ∀ l0, Mo w'.m w'.m (w'.plusl l).ow (Wd.ow ⟨w'.m, fp', w'.oo, w'.ro⟩) l0 H' H' := fun l0 => ⟨List.prefix_refl _, fun _ _ e _ => e, fun a _ n x => n (sow a x)⟩
    have rep := r.rep.mono (mg := mg) (m' := w'.m) (ow' := Wd.ow ⟨w'.m, fp', w'.oo, w'.ro⟩) (H' := H') ⟨List.prefix_refl _, fun _ _ e _ => e, fun a _ n x => n (plusl_ow.mp (sow a x))⟩
    refine ⟨⟨w'.m, fp', w'.oo, w'.ro⟩, ⟨⟨pre ++ (l ++ post), l2, s t x l (mo _) rep, h2.mono (mo _), nodup_ins nrest r.nd ap, hc⟩, hro', fun a ha ho => ?_, fun a ha => R.there a (sow a ha)⟩, ⟨r.fr.keep, fun a e n z => ?_, r.fr.oo, r.fr.ro, r.fr.m, fun h => nomatch h⟩⟩
    · rcases hfp a ha with h | h
      · exact (r.own a h).1 (.inr ho)
      · exact R.apart a h (.inl ho)
    · rcases hfp a z with h | h
      · rcases (r.own a h).2.1 with y | y
        · exact e y
        · exact n y
      · exact r.fr.out a e n h
  rcases hw with ⟨hq, e⟩ | ⟨hq, e, ho⟩
  · refine key _ (fun a ha => ?_) (.inl ⟨hq, rfl⟩)
    rw [show w'.fp = _ from e]
    simp only [List.mem_append] at ha ⊢
    rcases ha with (h | h | h) | h <;> simp [h]
  · refine key _ (fun a ha => ?_) (.inr ⟨hq, rfl, ho⟩)
    rw [show w'.fp = _ from e]
    simp only [List.mem_append] at ha ⊢
    rcases ha with h | h | h <;> simp [h]
theorem SReps.snoc {m : List Addr} {ow : Addr → Prop} {i : I8} {a : Addr} {l' : List Addr} (h' : SRep1 K mg m ow H i a l') : ∀ {S : List I8} {as l : List Addr}, SReps K mg m ow H S as l → SReps K mg m ow H (S ++ [i]) (as ++ [a]) (l ++ l')
  | [], _, _, ⟨e, el⟩ => by subst e el; exact ⟨a, [], l', [], rfl, h', ⟨rfl, rfl⟩, by simp⟩
  | _ :: _, _, _, ⟨b, r, l1, l2, e, h1, h2, el⟩ => by subst e el; exact ⟨b, r ++ [a], l1, l2 ++ l', rfl, h1, SReps.snoc h' h2, by rw [List.append_assoc]⟩
theorem trep_ref {m : List Addr} {ow : Addr → Prop} {t : T} {x : V} {l : List Addr} (h : TRep K mg m ow H t x l) (hd : ∀ d, t ≠ .d d) : ∃ a, x = .ref a := by
  cases t with
  | d x => exact absurd rfl (hd x)
  | fl xs => obtain ⟨a, vs, e, _⟩ := h; exact ⟨a, e⟩
  | fd t ks vs => obtain ⟨a, vs, o, e, _⟩ := h; exact ⟨a, e⟩
  | nl ts => obtain ⟨a, vs, l', e, _⟩ := h; exact ⟨a, e⟩
  | tp ts => obtain ⟨a, vs, e, _⟩ := h; exact ⟨a, e⟩
theorem rp_box {i : Nat} {t : T} {x : V} {l : List Addr} (hro : ∀ a, w.ro a → w.oo a) (hi : datS q.r i = true) (hq : q.w = true) (hd : ∀ d, t ≠ .d d) (r : RetOk K mg H w t x H' w' l) (R : Rp K mg q σ H' (w'.plusl l)) :
    ∃ w'', Rp K mg { q with r := q.r.set i (some (.d (.loc q.s.length))), s := q.s ++ [.box t] } (σ.set i (some x)) H' w'' ∧ Fr false H w H' w'' := by
  obtain ⟨l1, l2, h1, h2, nd, hw⟩ := R.ex
  obtain ⟨a, rfl⟩ := trep_ref r.rep hd
  rcases hw with ⟨_, e⟩ | ⟨e, _⟩
  · have e : w'.fp = l1 ++ l2 := e
    have sow : ∀ b, Wd.ow ⟨w'.m ++ [a], w'.fp ++ l, w'.oo, w'.ro⟩ b → (w'.plusl l).ow b := fun b h => by
      rw [plusl_ow]
      rcases h with h | h
      · exact (List.mem_append.mp h).elim (fun h => .inl (.inl h)) .inr
      · exact .inl (.inr h)
    have mo : ∀ l0, Mo w'.m (w'.m ++ [a]) (w'.plusl l).ow (Wd.ow ⟨w'.m ++ [a], w'.fp ++ l, w'.oo, w'.ro⟩) l0 H' H' := fun l0 => ⟨List.prefix_append _ _, fun _ _ e _ => e, fun a _ n x => n (sow a x)⟩
    have rep := r.rep.mono (mg := mg) (m' := w'.m ++ [a]) (ow' := Wd.ow ⟨w'.m ++ [a], w'.fp ++ l, w'.oo, w'.ro⟩) (H' := H') ⟨List.prefix_append _ _, fun _ _ e _ => e, fun a _ n x => n (plusl_ow.mp (sow a x))⟩
    have s2 := (h2.mono (mo _)).snoc (i := .box t) (a := a) (l' := l) ⟨rep, hd⟩
    have hl : q.s.length = w'.m.length := h2.length
    refine ⟨⟨w'.m ++ [a], w'.fp ++ l, w'.oo, w'.ro⟩, ⟨⟨l1, l2 ++ l, (h1.mono (mo _)).setD hi ⟨a, ?_, rfl⟩, s2, ?_, .inl ⟨hq, by rw [e, List.append_assoc]⟩⟩, fun b z => ?_, fun b hb ho => ?_, fun b hb => R.there b (sow b hb)⟩, ⟨r.fr.keep, fun b e n z => ?_, r.fr.oo, r.fr.ro, r.fr.m.trans (List.prefix_append _ _), fun h => nomatch h⟩⟩
    · rw [hl]; simp
    · rw [← List.append_assoc, ← e]
      refine List.nodup_append.mpr ⟨by rw [e]; exact nd, r.nd, fun b hb c hc ee => ?_⟩
      subst ee
      exact (r.own b hc).1 (.inl hb)
    · have z : w'.ro b := z
      show w'.oo b
      rw [r.fr.oo]; rw [r.fr.ro] at z; exact hro b z
    · rcases List.mem_append.mp hb with h | h
      · exact R.apart b h (.inl ho)
      · exact (r.own b h).1 (.inr ho)
    · rcases List.mem_append.mp z with h | h
      · exact r.fr.out b e n h
      · rcases (r.own b h).2.1 with y | y
        · exact e y
        · exact n y
  · rw [hq] at e; cases e
/-- what a def hands back, its locals let go -/
theorem rp_ret {t : T} {x : V} {l : List Addr} (r : RetOk K mg H w t x H' w' l) (R : Rp K mg q σ H' (w'.plusl l)) (h : Rp K mg q σ H w ∨ True) : ∃ w3, RetOk K mg H w t x H' w3 l ∧ Rp K mg ⟨[], q.s, q.w⟩ [] H' (w3.plusl l) := by
  obtain ⟨w2, R2, F2, em, eo, hs⟩ := R.drop
  have er : w2.ro = w'.ro := F2.ro
  have e2 : w2 = Wd.plusl ⟨w2.m, w2.fp, w'.oo, w'.ro⟩ l := by
    cases w2
    simp only at em eo er
    subst em eo er
    rfl
  have sub : ∀ a, Wd.ow ⟨w2.m, w2.fp, w'.oo, w'.ro⟩ a → w'.ow a := fun a h => h.imp (hs a) id
  rw [e2] at R2
  refine ⟨⟨w2.m, w2.fp, w'.oo, w'.ro⟩, ⟨⟨r.fr.keep, fun a e n z => r.fr.out a e n (hs a z), r.fr.oo, r.fr.ro, by rw [show w2.m = w'.m from em]; exact r.fr.m, fun h => nomatch h⟩, fun a ha => ?_, r.nd, ?_⟩, R2⟩
  · obtain ⟨o1, o2, o3⟩ := r.own a ha
    exact ⟨fun z => o1 (sub a z), o2, o3⟩
  · exact r.rep.mono ⟨by rw [show w2.m = w'.m from em]; exact List.prefix_refl _, fun _ _ e _ => e, fun a _ n z => n (z.imp (sub a) id)⟩
theorem rp_retO {i : Nat} {t : T} (R : Rp K mg q σ H w) (hi : q.r[i]? = some (some t)) : ∃ x w3 l, σ[i]? = some (some x) ∧ RetOk K mg H w t x H w3 l ∧ Rp K mg ⟨[], q.s, q.w⟩ [] H (w3.plusl l) := by
  obtain ⟨l1, l2, h1, h2, nd, hw⟩ := R.ex
  obtain ⟨pre, li, post, el, g, g0, s, z⟩ := h1.split (List.getElem?_eq_some_iff.mp hi).1
  obtain ⟨v, ev, rep⟩ := g t hi
  subst el
  have infp : ∀ a, a ∈ li → a ∈ w.fp := fun a ha => by
    have : a ∈ pre ++ (li ++ post) := by simp [ha]
    rcases hw with ⟨_, e⟩ | ⟨_, e, _⟩
    · rw [e]; exact List.mem_append_left _ this
    · rw [e]; exact this
  have nli : li.Nodup ∧ (∀ a ∈ li, a ∉ l2) ∧ l2.Nodup := by
    have nd' := nd
    simp only [List.append_assoc, List.nodup_append] at nd'
    refine ⟨nd'.2.1.1, fun a ha hb => ?_, nd'.2.1.2.1.2.1⟩
    exact nd'.2.1.2.2 a ha a (List.mem_append_right _ hb) rfl
  have key : ∀ fp' : List Addr, (∀ a ∈ fp', a ∈ w.fp ∧ a ∈ l2) → ((q.w = true ∧ fp' = [] ++ l2) ∨ (q.w = false ∧ fp' = [] ∧ ∀ a ∈ l2, w.ro a)) → ∃ x w3 l, σ[i]? = some (some x) ∧ RetOk K mg H w t x H w3 l ∧ Rp K mg ⟨[], q.s, q.w⟩ [] H (w3.plusl l) := by
    intro fp' hfp hc
    have sow : ∀ a, (Wd.plusl ⟨w.m, fp', w.oo, w.ro⟩ li).ow a → w.ow a := fun a h => by
      rcases plusl_ow.mp h with h | h
      · exact h.imp (fun z => (hfp a z).1) id
      · exact .inl (infp a h)
    refine ⟨v, ⟨w.m, fp', w.oo, w.ro⟩, li, ev, ⟨⟨fun _ _ e _ => e, fun a _ n z => n (hfp a z).1, rfl, rfl, List.prefix_refl _, fun h => nomatch h⟩, fun a ha => ⟨fun h => ?_, .inr (infp a ha), R.there a (.inl (infp a ha))⟩, nli.1, rep.mono ⟨List.prefix_refl _, fun _ _ e _ => e, fun a _ n z => n (sow a (plusl_ow.mpr z))⟩⟩,
      ⟨⟨[], l2, ⟨rfl, rfl⟩, h2.mono ⟨List.prefix_refl _, fun _ _ e _ => e, fun a _ n z => n (sow a z)⟩, by simpa using nli.2.2, hc⟩, fun a h => .inl (R.ro a h), fun a h z => ?_, fun a h => R.there a (sow a h)⟩⟩
    · rcases h with h | h
      · exact nli.2.1 a ha (hfp a h).2
      · exact R.apart a (infp a ha) h
    · rcases z with z | z
      · exact R.apart a (hfp a h).1 z
      · exact nli.2.1 a z (hfp a h).2
  rcases hw with ⟨hq, e⟩ | ⟨hq, e, ho⟩
  · exact key l2 (fun a ha => ⟨by rw [e]; exact List.mem_append_right _ ha, ha⟩) (.inl ⟨hq, rfl⟩)
  · exact key [] (fun a ha => absurd ha (by simp)) (.inr ⟨hq, rfl, ho⟩)
end
/-- from a reading of an owned thing to what follows -/
theorem CtS.bndT {K : PySem.W.Frag} {mg : Str → Option Value} {W : WX} {p : Bool} {m : Q8 → Out T} {f : T → S8} {q : Q8} {w : Wd} {σ : L2.St} {H : Hp} {Dn : Ends} {Q' : VK} (h : CtS K mg W (Fy.bnd m f) q w σ H Dn)
    (k : ∀ t q1 x H1 w1 l, m q = .ok t q1 → RetOk K mg H w t x H1 w1 l → Rp K mg q1 σ H1 (w1.plusl l) → (f t q1 = Fy.bnd m f q) → Q' x H1) : CtT K mg W p m q w σ H Q' := by
  unfold CtT
  cases e : m q with
  | no =>
    unfold CtS Fy.bnd at h
    rw [e] at h; exact h
  | exc x q' =>
    unfold CtS Fy.bnd at h
    rw [e] at h
    exact fun c a H' w' F R z => h σ c a H' w' F.loose R z
  | ok t q1 => exact fun x H1 w1 l F r R => k t q1 x H1 w1 l e r R (by unfold Fy.bnd; rw [e])
section
variable {X : Cx} {W : WX} {p : Bool} {e : Expr} {m : Q8 → Out T} {i : Nat} {x : Str} {pos pos' : Pos}
theorem sx_setT (hN : X.N.Nodup) (he : PXT X W p e m) (hi : X.N[i]? = some x := by rfl) (hx : Loc X.env.scope x := by first | exact Or.inl rfl | exact Or.inr rfl) (hs : swapsWith e (some (.Name x pos')) pos.line X.env = pure false := by rfl) (hf : X.fn x = true ∨ X.env.scope.names.lookup x = some .local := by first | exact .inl rfl | exact .inr rfl | assumption) :
    SX X W (.Assign [.Name x pos'] e pos) (ssetT i m) :=
  psW (ps_set hN hi hx he hs hf) fun D σ H ⟨q, w, R, h⟩ => ⟨q, w, R, h.bndT fun t q1 x H1 w1 l e1 r R1 ef => by
    have h' : CtS X.K X.mg W (ssetT i m) q w σ H D := h
    unfold CtS at h'
    rw [show ssetT i m q = _ from ef.symm] at h'
    by_cases hi : i < q1.r.length
    · simp only [hi, if_true] at h'
      obtain ⟨w2, R2, F2⟩ := rp_setT R.ro hi r R1
      exact h' _ H1 w2 F2 R2
    · simp only [hi, if_false] at h'⟩
theorem sx_box (hN : X.N.Nodup) (he : PXT X W p e m) (hi : X.N[i]? = some x := by rfl) (hx : Loc X.env.scope x := by first | exact Or.inl rfl | exact Or.inr rfl) (hs : swapsWith e (some (.Name x pos')) pos.line X.env = pure false := by rfl) (hf : X.fn x = true ∨ X.env.scope.names.lookup x = some .local := by first | exact .inl rfl | exact .inr rfl | assumption) :
    SX X W (.Assign [.Name x pos'] e pos) (sbox i m) :=
  psW (ps_set hN hi hx he hs hf) fun D σ H ⟨q, w, R, h⟩ => ⟨q, w, R, h.bndT fun t q1 x H1 w1 l e1 r R1 ef => by
    have h' : CtS X.K X.mg W (sbox i m) q w σ H D := h
    unfold CtS at h'
    rw [show sbox i m q = _ from ef.symm] at h'
    have go : (∀ d, t ≠ .d d) → (datS q1.r i && q1.w) = true → (∀ (σ' : L2.St) (H' : Hp) (w' : Wd), Fr false H w H' w' → Rp X.K X.mg { q1 with r := q1.r.set i (some (.d (.loc q1.s.length))), s := q1.s ++ [.box t] } σ' H' w' → D.nx σ' H') → D.nx (σ.set i (some x)) H1 := fun hd hb hh => by
      rw [Bool.and_eq_true] at hb
      obtain ⟨w2, R2, F2⟩ := rp_box R.ro hb.1 hb.2 hd r R1
      exact hh _ H1 w2 F2 R2
    cases t with
    | d x => exact h'.elim
    | _ =>
      dsimp only at h'
      by_cases hb : (datS q1.r i && q1.w) = true
      · simp only [hb, if_true] at h'
        exact go (fun _ z => nomatch z) hb h'
      · simp only [hb] at h'
        exact h'.elim⟩
theorem sx_retT (he : PXT X W p e m) : SX X W (.Return (some e) pos) (sretT m) :=
  psW (ps_ret he) fun D σ H ⟨q, w, R, h⟩ => ⟨q, w, R, h.bndT fun t q1 x H1 w1 l e1 r R1 ef => by
    have h' : CtS X.K X.mg W (sretT m) q w σ H D := h
    unfold CtS at h'
    rw [show sretT m q = _ from ef.symm] at h'
    obtain ⟨w3, r3, R3⟩ := rp_ret r R1 (.inr trivial)
    exact h' x H1 w3 l r3 R3⟩
theorem sx_retO (hN : X.N[i]? = some x := by rfl) (hv : Vis X.env.scope x := by first | exact Or.inl rfl | exact Or.inr (Or.inl rfl) | exact Or.inr (Or.inr rfl)) (hd : (x == ("__debug__" : Str)) = false := by decide)
    (hcd : (x == ("__classdict__" : Str)) = false := by decide) : SX X W (.Return (some (.Name x pos')) pos) (sretO i) :=
  psW (ps_ret (pe_var hN hv hd hcd)) fun D σ H ⟨q, w, R, h⟩ => by
    unfold CtS sretO at h
    cases hx : q.r[i]? with
    | none => rw [hx] at h; exact h.elim
    | some o =>
      cases o with
      | none => rw [hx] at h; exact h.elim
      | some t =>
        rw [hx] at h
        obtain ⟨v, w3, l, ev, r3, R3⟩ := rp_retO R hx
        exact ⟨v, ev, h v H w3 l r3 R3⟩
end
end Fy

set_option maxHeartbeats 1000000
namespace Fy
open PySem PySem.Spec PyProof.Rows L2

/-! ### what is owned, changed in place -/
def own (i : Nat) (q : Q8) : Option T := match q.r[i]? with
  | some (some (.d (.loc l))) => if q.w = true then match q.s[l]? with
    | some (.box t) => some t
    | _ => none
    else none
  | some (some (.d _)) => none
  | some (some t) => some t
  | _ => none
def upd8 (i : Nat) (t : T) (q : Q8) : Q8 := match q.r[i]? with
  | some (some (.d (.loc l))) => { q with s := q.s.set l (.box t) }
  | _ => { q with r := q.r.set i (some t) }
def oneT : T → Bool
  | .fl _ => true
  | .fd _ _ _ => true
  | _ => false
section
variable {K : PySem.W.Frag} {mg : Str → Option Value} {q : Q8} {w w' : Wd} {σ : L2.St} {H H' : Hp} {W : WX} {Dn : Ends}
theorem one_rep {m : List Addr} {ow : Addr → Prop} {t : T} {v : V} {l : List Addr} (h : TRep K mg m ow H t v l) (o : oneT t = true) : ∃ a, v = .ref a ∧ l = [a] := by
  cases t with
  | fl xs => obtain ⟨a, vs, e, _, _, el⟩ := h; exact ⟨a, e, el⟩
  | fd t ks vs => obtain ⟨a, vs, o, e, _, _, _, el⟩ := h; exact ⟨a, e, el⟩
  | _ => cases o
theorem SReps.mod {m : List Addr} {ow : Addr → Prop} : ∀ {S : List I8} {as ls : List Addr} {l : Nat} {t : T}, SReps K mg m ow H S as ls → ls.Nodup → S[l]? = some (.box t) → ∃ a li, as[l]? = some a ∧ TRep K mg m ow H t (.ref a) li ∧ (∀ b ∈ li, b ∈ ls) ∧
    ∀ (H' : Hp) (t' : T), (∀ b o, H b = some o → b ∉ li → H' b = some o) → (∀ b, b ∈ li → ow b) → TRep K mg m ow H' t' (.ref a) li → (∀ d, t' ≠ .d d) → SReps K mg m ow H' (S.set l (.box t')) as ls
  | [], _, _, _, _, _, _, e => by simp at e
  | s :: S, _, _, 0, t, ⟨a, r, l1, l2, e, h1, h2, el⟩, nd, q => by
    have q' : s = .box t := by simpa using q
    subst q' e el
    refine ⟨a, l1, rfl, h1.1, fun b hb => List.mem_append_left _ hb, fun H' t' k io rep hd => ⟨a, r, l1, l2, rfl, ⟨rep, hd⟩, h2.mono ⟨List.prefix_refl _, fun b o e z => k b o e fun hb => ?_, fun _ _ h => h⟩, rfl⟩⟩
    rcases z with z | z
    · exact z (io b hb)
    · exact (List.nodup_append.mp nd).2.2 b hb b z rfl
  | s :: S, _, _, l + 1, t, ⟨a, r, l1, l2, e, h1, h2, el⟩, nd, q => by
    subst e el
    obtain ⟨b, li, e1, e2, e3, f⟩ := SReps.mod (l := l) (t := t) h2 (List.nodup_append.mp nd).2.1 (by simpa using q)
    refine ⟨b, li, by simpa using e1, e2, fun c hc => List.mem_append_right _ (e3 c hc), fun H' t' k io rep hd => ⟨a, r, l1, l2, rfl, h1.mono ⟨List.prefix_refl _, fun c o e z => k c o e fun hc => ?_, fun _ _ h => h⟩, f H' t' k io rep hd, rfl⟩⟩
    rcases z with z | z
    · exact z (io c hc)
    · exact (List.nodup_append.mp nd).2.2 c z c (e3 c hc) rfl
theorem mo_w {a : Addr} {o : HO} {l : List Addr} (h : w.ow a) (hl : a ∉ l) : Mo w.m w.m w.ow w.ow l H (upd H a o) :=
  ⟨List.prefix_refl _, fun b u e z => by
    rw [upd_ne fun x => ?_]; exact e
    subst x
    exact z.elim (fun z => z h) hl, fun _ _ h => h⟩
/-- the owned thing at the slot i, and its change -/
theorem Rp.own {i : Nat} {t : T} (R : Rp K mg q σ H w) (e : Fy.own i q = some t) (ho : oneT t = true) : ∃ a, σ[i]? = some (some (.ref a)) ∧ TRep K mg w.m w.ow H t (.ref a) [a] ∧ w.ow a ∧
    ∀ (t' : T) (o' : HO), oneT t' = true → TRep K mg w.m w.ow (upd H a o') t' (.ref a) [a] → ∃ w', Rp K mg (upd8 i t' q) σ (upd H a o') w' ∧ Fr false H w (upd H a o') w' := by
  have slot : ∀ t, q.r[i]? = some (some t) → oneT t = true → (∀ t', upd8 i t' q = { q with r := q.r.set i (some t') }) → ∃ a, σ[i]? = some (some (.ref a)) ∧ TRep K mg w.m w.ow H t (.ref a) [a] ∧ w.ow a ∧
    ∀ (t' : T) (o' : HO), oneT t' = true → TRep K mg w.m w.ow (upd H a o') t' (.ref a) [a] → ∃ w', Rp K mg (upd8 i t' q) σ (upd H a o') w' ∧ Fr false H w (upd H a o') w' := by
    intro t ei ho eu
    obtain ⟨li, g, hin, _, f⟩ := R.put (List.getElem?_eq_some_iff.mp ei).1
    obtain ⟨v, ev, rep⟩ := g t ei
    obtain ⟨a, rfl, rfl⟩ := one_rep rep ho
    have ha : w.ow a := .inl (hin a (by simp))
    refine ⟨a, ev, rep, ha, fun t' o' ho' rep' => ?_⟩
    obtain ⟨w', em, eo, er, hs, _, _, g⟩ := f [a] (fun b hb => .inl hb) (by simp)
    have sub : ∀ b, w'.ow b → w.ow b := fun b h => by
      rcases h with h | h
      · rcases hs b h with h | h
        · exact .inl h
        · rw [show b = a by simpa using h]; exact ha
      · rw [eo] at h; exact .inr h
    obtain ⟨R', F'⟩ := g (upd H a o') t' (.ref a) (fun b u e n => by rw [upd_ne (fun z => n (by simp [z]))]; exact e) (fun b hb => by rw [show b = a by simpa using hb, upd_same]; simp)
      (rep'.mono ⟨List.prefix_refl _, fun _ _ e _ => e, fun b _ n z => n (sub b z)⟩)
    rw [eu t']
    have es : σ.set i (some (.ref a)) = σ := by
      refine List.ext_getElem? fun j => ?_
      by_cases hj : i = j
      · subst hj
        rw [List.getElem?_set_self (List.getElem?_eq_some_iff.mp ev).1, ev]
      · rw [List.getElem?_set_ne hj]
    rw [es] at R'
    exact ⟨w', R', F'⟩
  unfold Fy.own at e
  split at e
  · rename_i l el
    split at e
    · rename_i hw
      split at e
      · rename_i t0 et
        cases e
        obtain ⟨v, li, ev, ⟨⟨a, hm, rfl⟩, _⟩, _⟩ := R.get el
        obtain ⟨l1, l2, h1, h2, nd, hc⟩ := R.ex
        obtain ⟨a', li, hm', rep, hin, f⟩ := h2.mod (List.nodup_append.mp nd).2.1 et
        rw [hm] at hm'; cases hm'
        obtain ⟨b, eb, rfl⟩ := one_rep rep ho
        cases eb
        rcases hc with ⟨_, efp⟩ | ⟨z, _⟩
        · have ha : w.ow a := .inl (by rw [efp]; exact List.mem_append_right _ (hin a (by simp)))
          refine ⟨a, ev, rep, ha, fun t' o' ho' rep' => ⟨w, ?_, ⟨fun b u e n => ?_, fun _ _ n => n, rfl, rfl, List.prefix_refl _, fun h => nomatch h⟩⟩⟩
          · have eu : upd8 i t' q = { q with s := q.s.set l (.box t') } := by unfold upd8; rw [el]
            rw [eu]
            refine ⟨⟨l1, l2, h1.mono (mo_w ha fun z => ?_), f (upd H a o') t' (fun b u e n => by rw [upd_ne (fun z => n (by simp [z]))]; exact e) (fun b hb => by rw [show b = a by simpa using hb]; exact ha) rep' (fun d z => by rw [z] at ho'; cases ho'), nd, .inl ⟨hw, efp⟩⟩, R.ro, R.apart, fun b hb => ?_⟩
            · exact (List.nodup_append.mp nd).2.2 a z a (hin a (by simp)) rfl
            · by_cases hb' : b = a
              · rw [hb', upd_same]; simp
              · rw [upd_ne hb']; exact R.there b hb
          · rw [upd_ne fun z => n (by rw [z, efp]; exact List.mem_append_right _ (hin a (by simp)))]; exact e
        · rw [hw] at z; cases z
      · cases e
    · cases e
  · cases e
  · rename_i t0 hne hnd et
    cases e
    refine slot t et ho fun t' => ?_
    unfold upd8
    split
    · rename_i l z
      rw [et] at z
      cases z
      cases ho
    · rfl
  · cases e
end
/-- x.append(e) -/
def sapp (i : Nat) (m : M8) : S8 := fun q => match own i q with
  | some (.fl _) => bnd m (fun d q2 => match own i q2 with
    | some (.fl xs) => if xs.length < sizeLine then .ok .nx (upd8 i (.fl (xs ++ [d])) q2) else .no
    | _ => .no) q
  | _ => .no
theorem PSet.or {X : Cx} {t t' : TSet} (h : PSet X t) (h' : PSet X t') : PSet X (fun o i v H Q => t o i v H Q ∨ t' o i v H Q) := fun pins s σ H o i v ov iv u Q I r1 r2 r3 hq =>
  hq.elim (h pins s σ H o i v ov iv u Q I r1 r2 r3) (h' pins s σ H o i v ov iv u Q I r1 r2 r3)
/-- a dict's value put -/
def dput (ks xs : List D) (y : Key) (k d : D) : List D × List D :=
  if ks.any (fun k => decide (keyK k = some y)) then (ks, List.zipWith (fun k x => if keyK k = some y then d else x) ks xs) else (ks ++ [k], xs ++ [d])
/-- x[k] = e -/
def ssub (i : Nat) (mk me : M8) : S8 := bnd me fun d q1 => match own i q1 with
  | some _ => bnd mk (fun k q => match own i q with
    | some (.fl xs) => match k with
      | .int j => match ixN xs.length j with
        | some n => .ok .nx (upd8 i (.fl (xs.set n d)) q)
        | none => .no
      | _ => .no
    | some (.fd false ks vs) => match keyK k with
      | some y => if ks.length < sizeLine then .ok .nx (upd8 i (.fd false (dput ks vs y k d).1 (dput ks vs y k d).2) q) else .no
      | none => .no
    | _ => .no) q1
  | none => .no
section
variable {K : PySem.W.Frag} {mg : Str → Option Value} {m : List Addr} {ow : Addr → Prop} {H : Hp}
theorem keysK_snoc {k : D} {y : Key} (hk : keyK k = some y) : ∀ {ks : List D} {kk : List Key}, keysK ks = some kk → keysK (ks ++ [k]) = some (kk ++ [y])
  | [], _, e => by cases e; simp [keysK, hk]
  | k0 :: ks, kk, e => by
    unfold keysK at e
    cases e1 : keyK k0 with
    | none => rw [e1] at e; cases e
    | some k1 =>
      cases e2 : keysK ks with
      | none => rw [e1, e2] at e; cases e
      | some kr =>
        rw [e1, e2] at e
        cases e
        show keysK (k0 :: (ks ++ [k])) = _
        unfold keysK
        rw [e1, keysK_snoc hk e2]
        rfl
theorem any_keys {y : Key} : ∀ {ks : List D} {kk : List Key} {vs : List V}, keysK ks = some kk → vs.length = kk.length → (ks.any fun k => decide (keyK k = some y)) = ((kk.zip vs).any fun kv => decide (kv.1 = y))
  | [], _, vs, e, hl => by cases e; rfl
  | k0 :: ks, kk, vs, e, hl => by
    unfold keysK at e
    cases e1 : keyK k0 with
    | none => rw [e1] at e; cases e
    | some k1 =>
      cases e2 : keysK ks with
      | none => rw [e1, e2] at e; cases e
      | some kr =>
        rw [e1, e2] at e
        cases e
        cases vs with
        | nil => simp at hl
        | cons v vr =>
          rw [List.any_cons, List.zip_cons_cons, List.any_cons, any_keys e2 (by simpa using hl), e1]
          congr 1
          simp
theorem put_map {y : Key} {d : D} {v : V} (hd : DRep K mg m ow H d v) : ∀ {ks xs : List D} {kk : List Key} {vs : List V}, keysK ks = some kk → vs.length = kk.length → DReps K mg m ow H xs vs →
    ∃ vs', (kk.zip vs).map (fun kv => if kv.1 = y then (kv.1, v) else kv) = kk.zip vs' ∧ vs'.length = kk.length ∧ DReps K mg m ow H (List.zipWith (fun k x => if keyK k = some y then d else x) ks xs) vs'
  | [], xs, _, vs, e, hl, r => by
    cases e
    exact ⟨[], by simp, rfl, by simp [DReps]⟩
  | k0 :: ks, xs, kk, vs, e, hl, r => by
    unfold keysK at e
    cases e1 : keyK k0 with
    | none => rw [e1] at e; cases e
    | some k1 =>
      cases e2 : keysK ks with
      | none => rw [e1, e2] at e; cases e
      | some kr =>
        rw [e1, e2] at e
        cases e
        cases xs with
        | nil =>
          cases (show vs = [] from r)
          simp at hl
        | cons x xr =>
          obtain ⟨u, ur, rfl, h1, h2⟩ := r
          obtain ⟨vr, ev, el, er⟩ := put_map (y := y) hd e2 (by simpa using hl) h2
          by_cases hy : k1 = y
          · subst hy
            exact ⟨v :: vr, by simp [ev], by simp [el], v, vr, rfl, by simp only [e1, if_true]; exact hd, er⟩
          · have ne : ¬ (some k1 = some y) := fun z => hy (Option.some.inj z)
            exact ⟨u :: vr, by simp [ev, hy], by simp [el], u, vr, rfl, by simp only [e1, ne, if_false]; exact h1, er⟩
theorem dput_of {ks xs : List D} {kk : List Key} {vs : List V} {y : Key} {k d : D} {v : V} (e : keysK ks = some kk) (hl : vs.length = kk.length) (r : DReps K mg m ow H xs vs) (hk : keyK k = some y) (hd : DRep K mg m ow H d v) :
    ∃ kk' vs', keysK (dput ks xs y k d).1 = some kk' ∧ vs'.length = kk'.length ∧ putK (kk.zip vs) y v = kk'.zip vs' ∧ DReps K mg m ow H (dput ks xs y k d).2 vs' := by
  unfold dput putK
  rw [any_keys (y := y) e hl]
  by_cases ha : ((kk.zip vs).any fun kv => decide (kv.1 = y)) = true
  · obtain ⟨vs', e1, e2, e3⟩ := put_map (y := y) hd e hl r
    simp only [ha, if_true]
    exact ⟨kk, vs', e, e2, e1, e3⟩
  · simp only [ha]
    exact ⟨kk ++ [y], vs ++ [v], keysK_snoc hk e, by simp [hl], by rw [List.zip_append hl.symm]; rfl, r.append ⟨v, [], rfl, hd, rfl⟩⟩
end
section
variable {X : Cx} {W : WX} {p p1 p2 : Bool} {e ek : Expr} {m mk me : M8} {i : Nat} {x : Str} {pos pos' apos cpos tpos : Pos}
theorem sx_app (he : PX X W false p e m) (hN : X.N[i]? = some x := by rfl) (hv : Vis X.env.scope x := by first | exact Or.inl rfl | exact Or.inr (Or.inl rfl) | exact Or.inr (Or.inr rfl)) (hd : (x == ("__debug__" : Str)) = false := by decide) (hcd : (x == ("__classdict__" : Str)) = false := by decide)
    (hbase : attributeBase (.Name x pos') "append" X.env (eval (.Name x pos') X.env) = eval (.Name x pos') X.env := by rfl)
    (hfew : ((backTo cpos (starEach [e] X.env)).all (fun x => !x.1) && (backToKw cpos (keywordEach [] X.env)).all (fun x => x.1.isSome) && decide (([e] : List Expr).length + ([] : List Keyword).length + (if ([] : List Keyword).isEmpty then 0 else 1) < 30)) = true := by rfl)
    (hline : (apos.endLine == cpos.line) = true := by rfl) (hs : starEach [e] X.env = (false, eval e X.env) :: starEach [] X.env := by rfl) (hplain : (backTo cpos (starEach [] X.env)).any (·.1) = false := by rfl)
    (hsw : swapsWith (.Call (.Attribute (.Name x pos') "append" apos) [e] [] cpos) none pos.line X.env = pure false := by rfl) :
    SX X W (.Expr (.Call (.Attribute (.Name x pos') "append" apos) [e] [] cpos) pos) (sapp i m) :=
  psW (ps_expr (pe_bm PySem.F.plainAttrs_list PySem.F.slot_list_append PySem.F.type_list_append mt_append (pe_var hN hv hd hcd) (xa_view1 (v := false) he hs) hbase hfew hline hs hplain) hsw) fun D σ H ⟨q, w, R, h⟩ => by
    unfold CtS sapp at h
    cases eo : own i q with
    | none => rw [eo] at h; exact h.elim
    | some t =>
      rw [eo] at h
      cases t <;> first | exact h.elim | skip
      rename_i xs0
      obtain ⟨a, ea, rep, _, _⟩ := R.own eo rfl
      obtain ⟨a', vs0, e0, h0, r0, el0⟩ := rep
      cases e0
      refine ⟨.ref a, ea, .inl ⟨rfl, vs0, .inl (.inl h0)⟩, q, w, R, ?_⟩
      have h : CtS X.K X.mg W (bnd m fun d q2 => match own i q2 with
        | some (.fl xs) => if xs.length < sizeLine then .ok .nx (upd8 i (.fl (xs ++ [d])) q2) else .no
        | _ => .no) q w σ H D := h
      refine h.bnd fun d q1 us H1 w1 e1 F1 R1 r1 h1 => ?_
      obtain ⟨y, rfl, r1⟩ := r1
      unfold CtS at h1
      dsimp only at h1
      cases eo1 : own i q1 with
      | none => rw [eo1] at h1; exact h1.elim
      | some t =>
        rw [eo1] at h1
        cases t <;> first | exact h1.elim | skip
        rename_i xs
        obtain ⟨b, eb, rep1, hb, f⟩ := R1.own eo1 rfl
        rw [ea] at eb
        cases eb
        obtain ⟨a', vs, e2, hh, r2, el⟩ := rep1
        cases e2
        by_cases hz : xs.length < sizeLine
        · dsimp only at h1; rw [if_pos hz] at h1
          have hl := r2.length
          obtain ⟨w', R', F'⟩ := f (.fl (xs ++ [d])) (.lst (vs ++ [y])) rfl ⟨a, vs ++ [y], rfl, upd_same, (r2.append (show DReps X.K X.mg _ _ _ [d] [y] from ⟨y, [], rfl, r1, rfl⟩)).mono (l := []) (mo_w hb List.not_mem_nil), rfl⟩
          exact ⟨a, vs, y, rfl, rfl, hh, by omega, h1 σ _ w' F' R'⟩
        · dsimp only at h1; rw [if_neg hz] at h1
          exact h1.elim
theorem sx_sub (hu : X.A.units + 64 < cLine) (he : PX X W false p1 e me) (hk : PX X W false p2 ek mk) (hN : X.N[i]? = some x := by rfl) (hv : Vis X.env.scope x := by first | exact Or.inl rfl | exact Or.inr (Or.inl rfl) | exact Or.inr (Or.inr rfl)) (hd : (x == ("__debug__" : Str)) = false := by decide) (hcd : (x == ("__classdict__" : Str)) = false := by decide)
    (ha : ∀ v, assign (.Subscript (.Name x pos') ek tpos) X.env v = (do
      let ov ← holding [v] (eval (.Name x pos') X.env)
      let iv ← holding [v, ov] (eval ek X.env)
      standAt tpos
      holding [v, ov, iv] (setItem ov iv v)
      release [v, ov, iv] []) := by intro _; rfl)
    (hs : swapsWithSole [.Subscript (.Name x pos') ek tpos] e pos.line X.env = pure false := by rfl) (hw : swappedStores [.Subscript (.Name x pos') ek tpos] e X.env = pure none := by rfl)
    (h1 : (assignEach [.Subscript (.Name x pos') ek tpos] X.env).map (·.2) = [assign (.Subscript (.Name x pos') ek tpos) X.env] := by rfl) :
    SX X W (.Assign [.Subscript (.Name x pos') ek tpos] e pos) (ssub i mk me) :=
  psW (ps_asg he (pg_sub (pe_var hN hv hd hcd) hk (PSet.or set_list (set_dict (by omega))) ha) hs hw h1) fun D σ H ⟨q, w, R, h⟩ => ⟨q, w, R, h.bnd fun d q1 y H1 w1 e1 F1 R1 r1 h1 => by
    unfold CtS at h1
    dsimp only at h1
    cases eo : own i q1 with
    | none => rw [eo] at h1; exact h1.elim
    | some t0 =>
      rw [eo] at h1
      have h2 : CtS X.K X.mg W (bnd mk fun k q => match own i q with
        | some (.fl xs) => match k with
          | .int j => match ixN xs.length j with
            | some n => .ok .nx (upd8 i (.fl (xs.set n d)) q)
            | none => .no
          | _ => .no
        | some (.fd false ks vs) => match keyK k with
          | some y => if ks.length < sizeLine then .ok .nx (upd8 i (.fd false (dput ks vs y k d).1 (dput ks vs y k d).2) q) else .no
          | none => .no
        | _ => .no) q1 w1 σ H1 D := h1
      obtain ⟨v0, l0, ev, _, _⟩ : ∃ v0 l0, σ[i]? = some (some v0) ∧ l0 = ([] : List Addr) ∧ True := by
        unfold own at eo
        split at eo
        · rename_i z
          obtain ⟨v, li, ev, _⟩ := R1.get z
          exact ⟨v, [], ev, rfl, trivial⟩
        · cases eo
        · rename_i z
          obtain ⟨v, li, ev, _⟩ := R1.get z
          exact ⟨v, [], ev, rfl, trivial⟩
        · cases eo
      refine ⟨v0, ev, q1, w1, R1, h2.bnd fun k q2 kv H2 w2 e2 F2 R2 r2 h3 => ?_⟩
      have ry : DRep X.K X.mg w2.m w2.ow H2 d y := DRep.mono F2.mo r1
      unfold CtS at h3
      dsimp only at h3
      cases eo2 : own i q2 with
      | none => rw [eo2] at h3; exact h3.elim
      | some t =>
        rw [eo2] at h3
        cases t with
        | d _ => exact h3.elim
        | nl _ => exact h3.elim
        | tp _ => exact h3.elim
        | fl xs =>
          obtain ⟨a, ea, rep, hb, f⟩ := R2.own eo2 rfl
          rw [ev] at ea
          cases ea
          obtain ⟨a', vs, e3, hh, r3, el⟩ := rep
          cases e3
          cases k <;> first | exact h3.elim | skip
          rename_i j
          dsimp only at h3
          cases ej : ixN xs.length j with
          | none => rw [ej] at h3; exact h3.elim
          | some n =>
            rw [ej] at h3
            cases (show kv = V.int _ from r2)
            obtain ⟨w', R', F'⟩ := f (.fl (xs.set n d)) (.lst (vs.set n y)) rfl ⟨a, vs.set n y, rfl, upd_same, (r3.set n ry).mono (l := []) (mo_w hb (List.not_mem_nil)), rfl⟩
            exact .inl ⟨a, vs, j, n, rfl, rfl, hh, by rw [← r3.length]; exact ej, h3 σ _ w' F' R'⟩
        | fd b ks xs =>
          cases b with
          | true => exact h3.elim
          | false =>
            obtain ⟨a, ea, rep, hb, f⟩ := R2.own eo2 rfl
            rw [ev] at ea
            cases ea
            obtain ⟨a', vs, o, e3, hh, hdo, r3, el⟩ := rep
            cases e3
            obtain ⟨kk, ek1, el1, rfl⟩ := hdo
            dsimp only at h3
            cases ek2 : keyK k with
            | none => rw [ek2] at h3; exact h3.elim
            | some yk =>
              rw [ek2] at h3
              dsimp only at h3
              by_cases hz : ks.length < sizeLine
              · rw [if_pos hz] at h3
                obtain ⟨kk', vs', g1, g2, g3, g4⟩ := dput_of ek1 el1 r3 ek2 ry
                obtain ⟨w', R', F'⟩ := f (.fd false (dput ks xs yk k d).1 (dput ks xs yk k d).2) (.dK (kk'.zip vs')) rfl ⟨a, vs', _, rfl, upd_same, ⟨kk', g1, g2, rfl⟩, g4.mono (l := []) (mo_w hb (List.not_mem_nil)), rfl⟩
                have hkl := keysK_length ek1
                refine .inr ⟨a, upd H2 a (.dK (kk'.zip vs')), rfl, .inl ⟨kk.zip vs, yk, hh, keyK_of r2 ek2, ?_, by rw [g3]⟩, h3 σ _ w' F' R'⟩
                rw [List.length_zip, el1, Nat.min_self, ← hkl]; exact hz
              · rw [if_neg hz] at h3; exact h3.elim⟩
/-- x op= e, whole numbers -/
def saug (f : Int → Int → Int) (i : Nat) (m : M8) : S8 := bnd (mvar i) fun a => sset i (bnd m fun b q => match a, b with
  | .int x, .int y => .ok (.int (f x y)) q
  | _, _ => .no)
theorem sx_aug {op : Operator} {f : Int → Int → Int} (hN : X.N.Nodup) (ho : PIp X op (ipI f)) (he : PX X W false p e m) (hi : X.N[i]? = some x := by rfl) (hx : Loc X.env.scope x := by first | exact Or.inl rfl | exact Or.inr rfl) (hf : X.fn x = true ∨ X.env.scope.names.lookup x = some .local := by first | exact .inl rfl | exact .inr rfl | assumption) :
    SX X W (.AugAssign (.Name x pos') op e pos) (saug f i m) :=
  psW (ps_aug hN hi hx he ho hf) fun Dn σ H ⟨q, w, R, h⟩ => by
    unfold CtS saug bnd mvar at h
    cases hq : q.r[i]? with
    | none => rw [hq] at h; exact h.elim
    | some o =>
      rw [hq] at h
      cases o with
      | none => exact h.elim
      | some t =>
        cases t <;> first | exact h.elim | skip
        rename_i a
        dsimp only at h
        obtain ⟨v, li, ev, ⟨rv, _⟩, _⟩ := R.get hq
        refine ⟨v, ev, q, w, R, ?_⟩
        have h' : CtS X.K X.mg W (bnd m fun b => bnd (fun q => match a, b with
            | .int x, .int y => .ok (D.int (f x y)) q
            | _, _ => .no) fun d q => if i < q.r.length then .ok .nx { q with r := q.r.set i (some (.d d)) } else .no) q w σ H Dn := by
          unfold CtS
          unfold sset bnd at h
          unfold bnd
          dsimp only at h ⊢
          cases em : m q <;> rw [em] at h <;> exact h
        refine h'.bnd fun b q1 y H1 w1 e1 F1 R1 r1 h1 => ?_
        have rv1 : DRep X.K X.mg w1.m w1.ow H1 a v := DRep.mono F1.mo rv
        cases a <;> first | exact h1.elim | skip
        cases b <;> first | exact h1.elim | skip
        rename_i x1 y1
        cases (show v = V.int _ from rv)
        cases (show y = V.int _ from r1)
        exact ⟨x1, y1, rfl, rfl, ctS_set (d := .int (f x1 y1)) (x := .int (f x1 y1)) R1 rfl h1⟩
end
end Fy

set_option maxHeartbeats 1000000
namespace Fy
open PySem PySem.Spec PyProof.Rows L2

section
variable {K : PySem.W.Frag} {mg : Str → Option Value} {W : WX} {A : Type}
theorem CtT.no {p : Bool} {m : Q8 → Out T} {q : Q8} {w : Wd} {σ : L2.St} {H : Hp} {Q : VK} (h : CtT K mg W p m q w σ H Q) (e : m q = .no) : False := by
  unfold CtT at h
  rw [e] at h; exact h
/-- .. and what is made of it is owned -/
theorem comp_ofT {v p0 p1 : Bool} {js vs : List Nat} {it : Q8 → Out (List D)} {g : GT} {t : Q8 → Out Bool} {e : A → Q8 → Out A} {a0 : A} {fin : A → Q8 → Out T} {stp : L2.St → Hp → Addr → (Hp → Prop) → Prop} {o0 : Addr → HO} {Q0 : VK}
    (AR : List Addr → (Addr → Prop) → Hp → Addr → A → HO → Prop) (ARm : ∀ {m m' : List Addr} {ow ow' : Addr → Prop} {H H' : Hp} {Da : Addr} {a : A} {o : HO}, Mo m m' ow ow' [] H H' → AR m ow H Da a o → AR m' ow' H' Da a o)
    (AR0 : ∀ {m : List Addr} {ow : Addr → Prop} {H : Hp} {Da : Addr}, AR m ow H Da a0 (o0 Da))
    (hstp : ∀ {acc : A} {q : Q8} {σ : L2.St} {H : Hp} {w : Wd} {Da : Addr} {o : HO} {Nx : Hp → Prop}, Rp K mg q σ H (w.plus Da) → ¬ w.ro Da → H Da = some o → AR w.m (w.plus Da).ow H Da acc o →
      (Ok8 (e acc q) fun acc' q' => ∀ H4 w4 o', Fr p1 H (w.plus Da) H4 (Wd.plus w4 Da) → w4.oo = w.oo → Rp K mg q' σ (upd H4 Da o') (w4.plus Da) → AR w4.m (w4.plus Da).ow (upd H4 Da o') Da acc' o' → Nx (upd H4 Da o')) → stp σ H Da Nx)
    (hj : ∀ i ∈ js, i ∈ vs) (hv : v = true → p1 = true) {σ : L2.St} {H : Hp} {Q : VK}
    (hfin : ∀ {acc : A} {q : Q8} {H1 : Hp} {w1 : Wd} {H : Hp} {w : Wd} {Da : Addr} {o : HO}, Fr p1 H1 w1 H w → Rp K mg q σ H (w.plus Da) → AR w.m (w.plus Da).ow H Da acc o → H Da = some o → ¬ w.ow Da → H1 Da = none → CtT K mg W p1 (fin acc) q w1 σ H1 Q0 → Q (.ref Da) H)
    (h : RdT K mg W (p0 && p1) (mcomp it g t e vs a0 fin) σ H Q0) :
    tCp (RdI K mg W v p0 it) (RdG K mg js g) (Rd K mg W00 p1 relB t) stp vs o0 σ H Q := by
  obtain ⟨q, w, R, h⟩ := h
  refine ⟨q, w, R, h.bnd fun ds q1 J H1 w1 e1 F1 R1 r1 c1 => ?_⟩
  by_cases ho : okW q1.r vs = true
  · refine comp_in AR ARm AR0 hstp hj hv R1 r1 ho ?_
    unfold Ok8
    have c2 : CtT K mg W p1 (bnd (tnL g t e vs ds a0) fin) ⟨wipeR q1.r vs, q1.s, q1.w⟩ w1 σ H1 Q0 := by
      unfold CtT at c1
      simp only [ho, if_true] at c1
      exact c1
    cases et : tnL g t e vs ds a0 ⟨wipeR q1.r vs, q1.s, q1.w⟩ with
    | no => exact c2.no (by unfold bnd; rw [et])
    | exc x q' => exact (tnL_noexc et).elim
    | ok acc q' =>
      intro H w Da o F _ Rp' _ ar hD hn hn1
      refine hfin F Rp' ar hD hn hn1 ?_
      unfold CtT bnd at c2
      rw [et] at c2
      exact c2
  · exact (c1.no (by simp only [ho]; rfl)).elim
theorem fin_T {p : Bool} {t : T} {q : Q8} {w w1 : Wd} {σ : L2.St} {H H1 : Hp} {Da : Addr} {Q : VK} (F : Fr p H1 w1 H w) (R : Rp K mg q σ H (w.plus Da)) (hn : ¬ w.ow Da) (hn1 : H1 Da = none) (hs : H Da ≠ none)
    (r : TRep K mg w.m (w.plus Da).ow H t (.ref Da) [Da]) (c : CtT K mg W p (mret t) q w1 σ H1 Q) : Q (.ref Da) H :=
  c (.ref Da) H w [Da] F ⟨F.loose, fun a ha => by cases (show a = Da by simpa using ha); exact ⟨hn, .inl hn1, hs⟩, by simp, r.mono ⟨List.prefix_refl _, fun _ _ e _ => e, fun a _ n z => n (plus_ow.mpr (z.imp id fun z => by simpa using z))⟩⟩ R.cast
end

/-! ### a list comprehension as an owned list -/
def tmlc (it : Q8 → Out (List D)) (g : GT) (t : Q8 → Out Bool) (e : M8) (vs : List Nat) : Q8 → Out T := mcomp it g t (stL e) vs [] (fun a => mret (.fl a))
section
variable {X : Cx} {W : WX} {v p0 p1 : Bool} {elt kx vx tg iter : Expr} {ifs : List Expr} {scope : Scope} {own : List (Str × Nat)} {pos : Pos} {it : Q8 → Out (List D)} {g : GT} {t : Q8 → Out Bool} {e mk mv : M8} {js : List Nat}
theorem stp_lc {acc : List D} {q : Q8} {σ : L2.St} {H : Hp} {w : Wd} {Da : Addr} {o : HO} {Nx : Hp → Prop} (R : Rp X.K X.mg q σ H (w.plus Da)) (hro : ¬ w.ro Da) (hD : H Da = some o) (ar : ARl X.K X.mg w.m (w.plus Da).ow H Da acc o)
    (hm : Ok8 (stL e acc q) fun acc' q' => ∀ H4 w4 o', Fr p1 H (w.plus Da) H4 (Wd.plus w4 Da) → w4.oo = w.oo → Rp X.K X.mg q' σ (upd H4 Da o') (w4.plus Da) → ARl X.K X.mg w4.m (w4.plus Da).ow (upd H4 Da o') Da acc' o' → Nx (upd H4 Da o')) : Rd X.K X.mg W00 p1 (VD X.K X.mg false) e σ H fun y H4 => ∃ acc, H4 Da = some (.lst acc) ∧ acc.length < sizeLine ∧ Nx (upd H4 Da (.lst (acc ++ [y]))) := by
  obtain ⟨vs, eo, r⟩ := ar
  refine ⟨q, w.plus Da, R, ?_⟩
  unfold Ct
  unfold stL bnd mop Ok8 at hm
  cases ee : e q with
  | no => rw [ee] at hm; exact hm
  | exc x q' => rw [ee] at hm; exact hm.elim
  | ok y q' =>
    rw [ee] at hm
    dsimp only at hm
    intro x H4 w4 F4 R4 rx
    obtain ⟨ew, er⟩ := plus_of F4.oo F4.ro
    have hD4 : H4 Da = some (.lst vs) := by rw [← eo]; exact F4.keep _ _ hD fun z => R.apart Da z (.inr rfl)
    have r4 := r.mono F4.mo
    have hl := r4.length
    by_cases hz : acc.length < sizeLine
    · simp only [hz, if_true] at hm
      rw [ew] at R4 r4 rx F4
      refine ⟨vs, hD4, by omega, hm H4 (w4.minus w) (.lst (vs ++ [x])) F4 rfl (R4.at (by rw [er]; exact hro)) ⟨vs ++ [x], rfl, (r4.append (show DReps X.K X.mg _ _ _ [y] [x] from ⟨x, [], rfl, rx, rfl⟩)).mono (mo_at (w := w4.minus w) (l := []) (by simp))⟩⟩
    · simp only [hz, if_false] at hm
theorem pxt_lc (hc : X.calm = true) (hN : X.N.Nodup) (hi : PIX X W v p0 tg iter it) (ok : BlkOk X.N X.env.scope scope own)
    (hg : ∀ (s : Shared) (H : Hp) (C : Addr) (cl : List (Str × Addr)) (fp : List Addr), PGX (X.blk s H scope (compEnvC scope cl C X.env) fp) js tg g)
    (ht : ∀ (s : Shared) (H : Hp) (C : Addr) (cl : List (Str × Addr)) (fp : List Addr), PTX (X.blk s H scope (compEnvC scope cl C X.env) fp) W00 p1 ifs t)
    (he : ∀ (s : Shared) (H : Hp) (C : Addr) (cl : List (Str × Addr)) (fp : List Addr), PX (X.blk s H scope (compEnvC scope cl C X.env) fp) W00 false p1 elt e)
    (hs : ∀ x, foldedSetIterable iter X.env x = pure x := by intro _; rfl) (hj : ∀ i ∈ js, i ∈ own.map (·.2) := by decide) (hv : v = true → p1 = true := by decide) : PXT X W (p0 && p1) (.ListComp elt [⟨tg, iter, ifs, 0⟩] scope pos) (tmlc it g t e (own.map (·.2))) :=
  peW (pe_lc hc hN hi ok hg ht he hs) fun _ _ _ h => comp_ofT (o0 := fun _ => .lst []) (stp := fun σ2 H3 D Nx => Rd X.K X.mg W00 p1 (VD X.K X.mg false) e σ2 H3 fun y H4 => ∃ acc, H4 D = some (.lst acc) ∧ acc.length < sizeLine ∧ Nx (upd H4 D (.lst (acc ++ [y])))) (ARl X.K X.mg)
    (fun x ⟨vs, e, r⟩ => ⟨vs, e, r.mono x⟩) ⟨[], rfl, (show DReps _ _ _ _ _ [] [] from rfl)⟩ (fun R hro hD ar hm => stp_lc (X := X) R hro hD ar hm) hj hv (fun {acc q H1 w1 H w Da o} F R ⟨vs, eo, r⟩ hD hn hn1 c =>
      fin_T F R hn hn1 (by rw [hD]; simp) (show TRep X.K X.mg w.m (w.plus Da).ow H (.fl acc) (.ref Da) [Da] from ⟨Da, vs, rfl, by rw [hD, eo], r, rfl⟩) c) h

/-! ### {k: v for target in source if test} -/
def stD (mk mv : M8) : List D × List D → Q8 → Out (List D × List D) := fun acc => bnd mk fun k => bnd mv fun d q => match keyK k with
  | some y => if acc.1.length < sizeLine then .ok (dput acc.1 acc.2 y k d) q else .no
  | none => .no
def ARd (K : PySem.W.Frag) (mg : Str → Option Value) (m : List Addr) (ow : Addr → Prop) (H : Hp) (Da : Addr) (acc : List D × List D) (o : HO) : Prop := ∃ vs, DicO false acc.1 vs o ∧ DReps K mg m ow H acc.2 vs
def tmdc (it : Q8 → Out (List D)) (g : GT) (t : Q8 → Out Bool) (mk mv : M8) (vs : List Nat) : Q8 → Out T := mcomp it g t (stD mk mv) vs ([], []) (fun a => mret (.fd false a.1 a.2))
theorem stp_dc {acc : List D × List D} {q : Q8} {σ : L2.St} {H : Hp} {w : Wd} {Da : Addr} {o : HO} {Nx : Hp → Prop} (R : Rp X.K X.mg q σ H (w.plus Da)) (hro : ¬ w.ro Da) (hD : H Da = some o) (ar : ARd X.K X.mg w.m (w.plus Da).ow H Da acc o)
    (hm : Ok8 (stD mk mv acc q) fun acc' q' => ∀ H4 w4 o', Fr p1 H (w.plus Da) H4 (Wd.plus w4 Da) → w4.oo = w.oo → Rp X.K X.mg q' σ (upd H4 Da o') (w4.plus Da) → ARd X.K X.mg w4.m (w4.plus Da).ow (upd H4 Da o') Da acc' o' → Nx (upd H4 Da o')) : Rd X.K X.mg W00 p1 (VD X.K X.mg false) mk σ H fun y H4 => Rd X.K X.mg W00 p1 (VD X.K X.mg false) mv σ H4 fun z H5 => ∃ kvs k, y = kV k ∧ H5 Da = some (.dK kvs) ∧ kvs.length < sizeLine ∧ Nx (upd H5 Da (.dK (putK kvs k z))) := by
  obtain ⟨vs, ⟨kk, ek, el, eo⟩, r⟩ := ar
  refine ⟨q, w.plus Da, R, ?_⟩
  unfold Ct
  unfold stD bnd Ok8 at hm
  cases e1 : mk q with
  | no => rw [e1] at hm; exact hm
  | exc x q' => rw [e1] at hm; exact hm.elim
  | ok k q1 =>
    rw [e1] at hm
    dsimp only at hm
    intro xk H4 w4 F4 R4 rk
    refine ⟨q1, w4, R4, ?_⟩
    unfold Ct
    cases e2 : mv q1 with
    | no => rw [e2] at hm; exact hm
    | exc x q' => rw [e2] at hm; exact hm.elim
    | ok d q2 =>
      rw [e2] at hm
      dsimp only at hm
      intro xd H5 w5 F5 R5 rd
      have FF : Fr p1 H (w.plus Da) H5 w5 := by have := F4.trans F5; rwa [Bool.and_self] at this
      obtain ⟨ew, er⟩ := plus_of FF.oo FF.ro
      have hD5 : H5 Da = some (.dK (kk.zip vs)) := by rw [← eo]; exact FF.keep _ _ hD fun z => R.apart Da z (.inr rfl)
      have r5 := r.mono FF.mo
      have rk5 : DRep X.K X.mg w5.m w5.ow H5 k xk := DRep.mono F5.mo rk
      cases ekk : keyK k with
      | none => rw [ekk] at hm; exact hm.elim
      | some y =>
        rw [ekk] at hm
        dsimp only at hm
        by_cases hz : acc.1.length < sizeLine
        · simp only [hz, if_true] at hm
          obtain ⟨kk', vs', g1, g2, g3, g4⟩ := dput_of ek el r5 ekk rd
          rw [ew] at R5 r5 g4 FF
          refine ⟨kk.zip vs, y, keyK_of rk5 ekk, hD5, ?_, ?_⟩
          · rw [List.length_zip, el, Nat.min_self, ← keysK_length ek]; exact hz
          · rw [g3]
            exact hm H5 (w5.minus w) (.dK (kk'.zip vs')) FF rfl (R5.at (by rw [er]; exact hro)) ⟨vs', ⟨kk', g1, g2, rfl⟩, g4.mono (mo_at (w := w5.minus w) (l := []) List.not_mem_nil)⟩
        · simp only [hz, if_false] at hm
theorem pxt_dc (hc : X.calm = true) (hN : X.N.Nodup) (hi : PIX X W v p0 tg iter it) (ok : BlkOk X.N X.env.scope scope own)
    (hg : ∀ (s : Shared) (H : Hp) (C : Addr) (cl : List (Str × Addr)) (fp : List Addr), PGX (X.blk s H scope (compEnvC scope cl C X.env) fp) js tg g)
    (ht : ∀ (s : Shared) (H : Hp) (C : Addr) (cl : List (Str × Addr)) (fp : List Addr), PTX (X.blk s H scope (compEnvC scope cl C X.env) fp) W00 p1 ifs t)
    (hk : ∀ (s : Shared) (H : Hp) (C : Addr) (cl : List (Str × Addr)) (fp : List Addr), PX (X.blk s H scope (compEnvC scope cl C X.env) fp) W00 false p1 kx mk)
    (he : ∀ (s : Shared) (H : Hp) (C : Addr) (cl : List (Str × Addr)) (fp : List Addr), PX (X.blk s H scope (compEnvC scope cl C X.env) fp) W00 false p1 vx mv)
    (hs : ∀ x, foldedSetIterable iter X.env x = pure x := by intro _; rfl) (hj : ∀ i ∈ js, i ∈ own.map (·.2) := by decide) (hv : v = true → p1 = true := by decide) : PXT X W (p0 && p1) (.DictComp kx vx [⟨tg, iter, ifs, 0⟩] scope pos) (tmdc it g t mk mv (own.map (·.2))) :=
  peW (pe_dc hc hN hi ok hg ht hk he hs) fun _ _ _ h => comp_ofT (o0 := fun _ => .dK []) (stp := fun σ2 H3 D Nx => Rd X.K X.mg W00 p1 (VD X.K X.mg false) mk σ2 H3 fun y H4 => Rd X.K X.mg W00 p1 (VD X.K X.mg false) mv σ2 H4 fun z H5 => ∃ kvs k, y = kV k ∧ H5 D = some (.dK kvs) ∧ kvs.length < sizeLine ∧ Nx (upd H5 D (.dK (putK kvs k z)))) (ARd X.K X.mg)
    (fun x ⟨vs, e, r⟩ => ⟨vs, e, r.mono x⟩) ⟨[], ⟨[], rfl, rfl, rfl⟩, (show DReps _ _ _ _ _ [] [] from rfl)⟩ (fun R hro hD ar hm => stp_dc (X := X) R hro hD ar hm) hj hv (fun {acc q H1 w1 H w Da o} F R ⟨vs, hdo, r⟩ hD hn hn1 c =>
      fin_T F R hn hn1 (by rw [hD]; simp) (show TRep X.K X.mg w.m (w.plus Da).ow H (.fd false acc.1 acc.2) (.ref Da) [Da] from ⟨Da, vs, o, rfl, hD, hdo, r, rfl⟩) c) h
end
end Fy

set_option maxHeartbeats 1000000
namespace Fy
open PySem PySem.Spec PyProof.Rows L2

section
variable {X : Cx} {W : WX} {v p p1 p2 p3 : Bool} {a b e ek ez : Expr} {es : List Expr} {m ma mb mk mz : M8} {ms : Q8 → Out (List D)} {pos ps cpos apos : Pos}
/-! ### -x -/
def gNeg : G1
  | _, .int i => some (.int (-i))
  | _, _ => none
theorem px_neg (ha : PX X W v p a m) : PX X W false p (.UnaryOp .USub a pos) (m1 gNeg m) :=
  peW (pe_un un_neg ha) fun σ H Q ⟨q, w, R, c⟩ => ⟨q, w, R, (ct_rt c).bnd fun d q1 x H1 w1 e1 F1 R1 r1 c1 => by
    obtain ⟨d', ed, c2⟩ := Ct.op (show Ct X.K X.mg W true (VD X.K X.mg false) (mop (gNeg q1.s d)) q1 w1 σ H1 Q from c1)
    cases d <;> first | (cases ed; done) | skip
    cases ed
    cases vint r1.view
    exact ⟨_, rfl, c2.fin R1 _ H1 (fun _ _ z => z) rfl⟩⟩

/-! ### slices -/
def cutD {α : Type} (xs : List α) (lo hi : Option Int) : List α := (xs.drop (HT.sIx xs.length 0 lo)).take (HT.sIx xs.length xs.length hi - HT.sIx xs.length 0 lo)
def gSl (lo hi : Option Int) : G1
  | _, .tup xs => some (.tup (cutD xs lo hi))
  | _, .lst xs => some (.lst (cutD xs lo hi))
  | _, .str z => if z.length ≤ sizeLine then some (.str (cutS z lo hi)) else none
  | _, _ => none
def rSlAny (K : PySem.W.Frag) : V → Option Int → Option Int → Hp → VK → Prop := fun x lo hi H Q => rSlA K x lo hi H Q ∨ rSlL K x lo hi H Q ∨ rSlS x lo hi H Q
theorem sl_any : SlR X (rSlAny X.K) := SlR.or sl_tupA (SlR.or sl_list sl_str)
theorem cut_reps {K : PySem.W.Frag} {mg : Str → Option Value} {m : List Addr} {ow : Addr → Prop} {H : Hp} {xs : List D} {vs : List V} (lo hi : Option Int) (r : DReps K mg m ow H xs vs) : DReps K mg m ow H (cutD xs lo hi) (cutV vs lo hi) := by
  unfold cutD cutV
  rw [r.length]
  exact (r.drop _).take _
theorem sl_of {lo hi : Option Int} {q : Q8} {σ : L2.St} {H : Hp} {w : Wd} {d : D} {x : V} {d' : D} {Q : VK} (R : Rp X.K X.mg q σ H w) (h : VRep X.K X.mg w.m w.ow H d x) (e : gSl lo hi q.s d = some d')
    (k : ∀ z H', (∀ b o, H b = some o → H' b = some o) → DRep X.K X.mg w.m w.ow H' d' z → Q z H') : rSlAny X.K x lo hi H Q := by
  cases d <;> first | (cases e; done) | skip
  · rename_i z
    simp only [gSl] at e
    split at e
    · rename_i hz
      cases e
      cases vstr h
      exact .inr (.inr ⟨z, rfl, hz, k _ H (fun _ _ z => z) rfl⟩)
    · cases e
  · rename_i xs
    cases e
    obtain ⟨a, vs, rfl, t, r⟩ := vtup h
    refine .inl ⟨a, vs, rfl, t.sq, fun ⟨h1, h2⟩ => k _ H (fun _ _ z => z) ⟨a, vs, rfl, t, ?_⟩, fun _ p hp => k _ _ (upd_keep hp) (new_tup R hp (cut_reps lo hi r))⟩
    have e : cutV vs lo hi = vs := by
      unfold cutV
      rw [h1, h2]
      simp
    have := cut_reps lo hi r
    rwa [e] at this
  · rename_i xs
    cases e
    obtain ⟨a, vs, rfl, t, r⟩ := vlst h
    exact .inr (.inl ⟨a, vs, rfl, .inl (.inl t), fun p hp => k _ _ (upd_keep hp) (new_lst R hp (cut_reps lo hi r))⟩)
/-- x[a:], x[:b], x[a:b], x[:] -/
def msl (m : M8) (lo hi : Option M8) : M8 := bnd m fun d => match lo, hi with
  | none, none => fun q => mop (gSl none none q.s d) q
  | some ml, none => bnd ml fun l q => match l with
    | .int i => mop (gSl (some i) none q.s d) q
    | _ => .no
  | none, some mh => bnd mh fun l q => match l with
    | .int i => mop (gSl none (some i) q.s d) q
    | _ => .no
  | some ml, some mh => bnd ml fun l => match l with
    | .int i => bnd mh fun u q => match u with
      | .int j => mop (gSl (some i) (some j) q.s d) q
      | _ => .no
    | _ => fun _ => .no
variable {lo hi : Expr} {ml mh : M8} {p2' : Pos}
theorem px_sl1 (he : PX X W v p1 e m) (hl : PX X W false p2 lo ml) (hv : v = true → p2 = true := by decide) : PX X W false (p1 && p2) (.Subscript e (.Slice (some lo) none none p2') pos) (msl m (some ml) none) :=
  peW (pe_slice sl_any he (po_some hl) po_none) fun σ H Q ⟨q, w, R, c⟩ => ⟨q, w, R, c.bnd fun d q1 x H1 w1 e1 F1 R1 r1 c1 => ⟨q1, w1, R1, (ct_rt c1).bnd fun l q2 y H2 w2 e2 F2 R2 r2 c2 => by
    cases l <;> first | exact c2.elim | skip
    rename_i i
    cases (show y = V.int i from r2)
    obtain ⟨d', ed, c3⟩ := Ct.op (show Ct X.K X.mg W true (VD X.K X.mg false) (mop (gSl (some i) none q2.s d)) q2 w2 σ H2 Q from c2)
    exact ⟨i, rfl, sl_of R2 (VD.stay hv F2 r1).view ed fun z H' k rz => c3.fin R2 z H' k rz⟩⟩⟩
theorem px_sl2 (he : PX X W v p1 e m) (hl : PX X W false p2 hi mh) (hv : v = true → p2 = true := by decide) : PX X W false (p1 && p2) (.Subscript e (.Slice none (some hi) none p2') pos) (msl m none (some mh)) :=
  peW (pe_slice sl_any he po_none (po_some hl)) fun σ H Q ⟨q, w, R, c⟩ => ⟨q, w, R, c.bnd fun d q1 x H1 w1 e1 F1 R1 r1 c1 => ⟨q1, w1, R1, (ct_rt c1).bnd fun l q2 y H2 w2 e2 F2 R2 r2 c2 => by
    cases l <;> first | exact c2.elim | skip
    rename_i i
    cases (show y = V.int i from r2)
    obtain ⟨d', ed, c3⟩ := Ct.op (show Ct X.K X.mg W true (VD X.K X.mg false) (mop (gSl none (some i) q2.s d)) q2 w2 σ H2 Q from c2)
    exact ⟨i, rfl, sl_of R2 (VD.stay hv F2 r1).view ed fun z H' k rz => c3.fin R2 z H' k rz⟩⟩⟩
theorem px_sl3 (he : PX X W v p1 e m) (hl : PX X W false p2 lo ml) (hh : PX X W false p3 hi mh) (hv : v = true → (p2 && p3) = true := by decide) : PX X W false (p1 && (p2 && p3)) (.Subscript e (.Slice (some lo) (some hi) none p2') pos) (msl m (some ml) (some mh)) :=
  peW (pe_slice sl_any he (po_some hl) (po_some hh)) fun σ H Q ⟨q, w, R, c⟩ => ⟨q, w, R, c.bnd fun d q1 x H1 w1 e1 F1 R1 r1 c1 => ⟨q1, w1, R1, c1.bnd fun l q2 y H2 w2 e2 F2 R2 r2 c2 => by
    cases l <;> first | exact c2.elim | skip
    rename_i i
    cases (show y = V.int i from r2)
    refine ⟨i, rfl, q2, w2, R2, (ct_rt c2).bnd fun u q3 z H3 w3 e3 F3 R3 r3 c3 => ?_⟩
    cases u <;> first | exact c3.elim | skip
    rename_i j
    cases (show z = V.int j from r3)
    obtain ⟨d', ed, c4⟩ := Ct.op (show Ct X.K X.mg W true (VD X.K X.mg false) (mop (gSl (some i) (some j) q3.s d)) q3 w3 σ H3 Q from c3)
    exact ⟨j, rfl, sl_of R3 (VD.stay hv (F2.trans F3) r1).view ed fun z H' k rz => c4.fin R3 z H' k rz⟩⟩⟩

/-! ### sorted, min -/
def srt (ns : List Int) : List Int := ns.mergeSort (fun a b => decide (a ≤ b))
theorem sorted_eq : ∀ {xs ys : List Int}, xs.Perm ys → xs.Pairwise (· ≤ ·) → ys.Pairwise (· ≤ ·) → xs = ys
  | [], ys, p, _, _ => p.nil_eq
  | x :: xs, [], p, _, _ => absurd p.length_eq (by simp)
  | x :: xs, y :: ys, p, hx, hy => by
    have h1 := List.pairwise_cons.mp hx
    have h2 := List.pairwise_cons.mp hy
    have e : x = y := by
      have a1 : y ∈ x :: xs := p.mem_iff.mpr (by simp)
      have a2 : x ∈ y :: ys := p.mem_iff.mp (by simp)
      rcases List.mem_cons.mp a1 with e | m1
      · exact e.symm
      · rcases List.mem_cons.mp a2 with e | m2
        · exact e
        · have := h1.1 y m1
          have := h2.1 x m2
          omega
    subst e
    rw [sorted_eq (List.Perm.cons_inv p) h1.2 h2.2]
theorem srt_perm (ns : List Int) : (srt ns).Perm ns := List.mergeSort_perm _ _
theorem srt_le (ns : List Int) : (srt ns).Pairwise (· ≤ ·) := by
  have := List.pairwise_mergeSort (le := fun a b : Int => decide (a ≤ b)) (by intro a b c h1 h2; simp only [decide_eq_true_eq] at *; omega) (by intro a b; simp only [Bool.or_eq_true, decide_eq_true_eq]; omega) ns
  exact this.imp (by intro a b h; simpa using h)
theorem srt_of {ns ys : List Int} (p : ys.Perm ns) (h : ys.Pairwise (· ≤ ·)) : ys = srt ns := sorted_eq (p.trans (srt_perm ns).symm) h (srt_le ns)
def gSorted : G1
  | _, .lst xs => (intsD xs).map fun ns => .lst ((srt ns).map .int)
  | _, .dic false ks _ => (intsD ks).bind fun ns => if ns.length < 64 then some (.lst ((srt ns).map .int)) else none
  | _, _ => none
theorem keys_ints : ∀ {ks : List D} {kk : List Key} {ns : List Int} {vs : List V}, keysK ks = some kk → intsD ks = some ns → vs.length = kk.length → (kk.zip vs).map (·.1) = ns.map Sum.inl
  | [], kk, ns, vs, e, e2, _ => by cases e; cases e2; rfl
  | k :: ks, kk, ns, vs, e, e2, hl => by
    cases k <;> first | (cases e2; done) | skip
    rename_i i
    unfold keysK at e
    unfold intsD at e2
    cases h1 : keysK ks with
    | none => rw [h1] at e; cases e
    | some kr =>
      cases h2 : intsD ks with
      | none => rw [h2] at e2; cases e2
      | some nr =>
        rw [h1] at e
        rw [h2] at e2
        cases e
        cases e2
        cases vs with
        | nil => simp at hl
        | cons v vr =>
          rw [List.zip_cons_cons, List.map_cons, keys_ints h1 h2 (by simpa using hl)]
          rfl
theorem c_sorted : CaS1 X (fun xs H Q => rSortedI X.K xs H Q ∨ (∃ (a : Addr) (kvs : List (Key × V)) (ks : List Int), xs = [V.ref a] ∧ L2.Rd H a (.dK kvs) ∧ kvs.map (·.1) = ks.map Sum.inl ∧ ks.length < 64 ∧
    ∀ (ys : List Int) (p : Addr), ys.Perm ks → ys.Pairwise (· ≤ ·) → H p = none → Q (.ref p) (upd H p (.lst (ys.map V.int))))) gSorted := by
  intro q σ H w d1 x d Q R h1 e k
  have fin : ∀ {ns ys : List Int} {p : Addr}, ys.Perm ns → ys.Pairwise (· ≤ ·) → H p = none → DRep X.K X.mg w.m w.ow (upd H p (.lst (ys.map V.int))) (.lst ((srt ns).map .int)) (.ref p) := fun {ns ys p} hp hs hn => by
    rw [← srt_of hp hs]
    exact new_lst R hn (dreps_ints ys)
  cases d1 <;> first | (cases e; done) | skip
  · rename_i xs
    obtain ⟨ns, en, rfl⟩ := Option.map_eq_some_iff.mp e
    obtain ⟨a, vs, rfl, t, r⟩ := vlst h1
    refine .inl ⟨a, ns, rfl, .inl (.inl (by rw [← ints_of r en]; exact t)), fun ns' p hp hs hn => k _ _ (upd_keep hn) (fin hp hs hn)⟩
  · rename_i t ks vs
    cases t <;> first | (cases e; done) | skip
    obtain ⟨ns, en, e2⟩ := Option.bind_eq_some_iff.mp e
    split at e2
    · rename_i hz
      cases e2
      obtain ⟨a, us, o, rfl, h, ⟨kk, ek, el, rfl⟩, r⟩ := vdic h1
      exact .inr ⟨a, _, ns, rfl, .inl h, keys_ints ek en el, hz, fun ys p hp hs hn => k _ _ (upd_keep hn) (fin hp hs hn)⟩
    · cases e2
theorem px_sorted (hc : X.calm = true) (hm : X.mg "sorted" = none) (ha : PX X W v p e m) (hg : Gl X "sorted" := by rfl) (he : starEach [e] X.env = (false, eval e X.env) :: starEach [] X.env := by rfl) (hpl : (backTo pos (starEach [] X.env)).any (·.1) = false := by rfl) :
    PX X W false p (.Call (.Name "sorted" ps) [e] [] pos) (m1 gSorted m) := px_cb1 (CallR.or cr_sortedI (call_sortedDI hc)) c_sorted (by decide +kernel) hm ha hg (by decide) (by decide) he hpl

/-! #### min of a list of whole numbers, of pairs of them -/
def pairsD : List D → Option (List (Int × Int))
  | [] => some []
  | .tup [.int a, .int b] :: r => match pairsD r with
    | some ps => some ((a, b) :: ps)
    | none => none
  | _ :: _ => none
def dPair (p : Int × Int) : D := .tup [.int p.1, .int p.2]
def pPair (p : Int × Int) : PyData := .tuple [.int p.1, .int p.2]
theorem pairs_map : ∀ {ds : List D} {ps : List (Int × Int)}, pairsD ds = some ps → ds = ps.map dPair
  | [], ps, e => by cases e; rfl
  | d :: ds, ps, e => by
    unfold pairsD at e
    split at e
    · rename_i heq; cases heq
    · rename_i a b r heq
      split at e
      · rename_i pr h
        cases e
        cases heq
        rw [List.map_cons, ← pairs_map h]
        rfl
      · cases e
    · cases e
open Classical in
noncomputable def minP (p : Int × Int) (ps : List (Int × Int)) : Int × Int := if h : ∃ z ∈ p :: ps, pPair z = PySem.W.minD (pPair p) (ps.map pPair) then choose h else p
theorem minP_mem (p : Int × Int) (ps : List (Int × Int)) : minP p ps ∈ p :: ps := by
  unfold minP
  split
  · rename_i h
    exact (Classical.choose_spec h).1
  · simp
noncomputable def gMin : G1
  | _, .lst xs => match intsD xs with
    | some (n :: ns) => some (.int (ns.foldl min n))
    | some [] => none
    | none => match pairsD xs with
      | some (p :: ps) => some (dPair (minP p ps))
      | _ => none
  | _, _ => none
theorem dpall_len {K : PySem.W.Frag} {H : Hp} : ∀ {vs : List V} {ds : List PyData}, DpAll K H vs ds → vs.length = ds.length
  | _, _, .nil => rfl
  | _, _, .cons _ h => by rw [List.length_cons, List.length_cons, dpall_len h]
theorem dpall_get {K : PySem.W.Frag} {H : Hp} : ∀ {vs : List V} {ds : List PyData} {i : Nat} {v : V} {d : PyData}, DpAll K H vs ds → vs[i]? = some v → ds[i]? = some d → Dp K H v d
  | _, _, 0, v, d, .cons h _, e1, e2 => by
    simp at e1 e2; subst e1 e2; exact h
  | _, _, i + 1, v, d, .cons _ h, e1, e2 => dpall_get h (by simpa using e1) (by simpa using e2)
def rMinP (K : PySem.W.Frag) : List V → Hp → VK → Prop := fun vs H Q => ∃ (a : Addr) (xs : List V) (p : Int × Int) (ps : List (Int × Int)), vs = [V.ref a] ∧ SqL K H a xs ∧ DpAll K H xs ((p :: ps).map pPair) ∧ ∀ (i : Nat) (x : V), xs[i]? = some x → (p :: ps)[i]? = some (minP p ps) → Q x H
theorem pPair_inj {p q : Int × Int} (h : pPair p = pPair q) : p = q := by
  cases p; cases q
  simp only [pPair, PyData.tuple.injEq, List.cons.injEq, PyData.int.injEq, and_true] at h
  rw [h.1, h.2]
theorem depth_pairs : ∀ ps : List (Int × Int), PyData.depthAll (ps.map pPair) ≤ 4
  | [] => by simp [PyData.depthAll]
  | p :: ps => by
    have := depth_pairs ps
    simp only [List.map_cons, PyData.depthAll, pPair, PyData.depth]
    omega
theorem cr_minP (hc : X.calm = true) (hu : X.A.units + 64 < cLine) : CallR X (.builtin "min") (rMinP X.K) := by
  intro pins s σ H vs us Q I r h
  obtain ⟨a, xs, p, ps, rfl, hs, hd, q⟩ := h
  obtain ⟨its, rv, hl, _⟩ := I.list hs
  rw [Vals.ref1 r]
  obtain ⟨as, rd⟩ := Dp.readsAll I _ _ _ hd rv
  have dep := depth_pairs (p :: ps)
  refine PySem.W.min_list_data (I.ok.hd hc) hl.isList (x := pPair p) (xs := ps.map pPair) (by simpa using rd) ⟨?_, ?_⟩ (by simp only [List.map_cons] at dep; omega) fun i v h' tk bs hv hr hk => ?_
  · intro x hx y hy
    obtain ⟨p1, _, rfl⟩ := List.mem_map.mp (show x ∈ (p :: ps).map pPair from hx)
    obtain ⟨p2, _, rfl⟩ := List.mem_map.mp (show y ∈ (p :: ps).map pPair from hy)
    rfl
  · intro x hx
    obtain ⟨p1, _, rfl⟩ := List.mem_map.mp (show x ∈ (p :: ps).map pPair from hx)
    simp [pPair]
  · have hv' : its[i]? = some v := by simpa using hv
    cases ex : xs[i]? with
    | none => rw [rv.none_of ex] at hv'; cases hv'
    | some x =>
      obtain ⟨u, hu', ru⟩ := rv.get ex
      rw [hu'] at hv'
      cases hv'
      -- what stands there
      have hlen : xs.length = (p :: ps).length := by
        have := dpall_len hd
        simpa using this
      have hi : i < (p :: ps).length := by
        rw [← hlen]; exact (List.getElem?_eq_some_iff.mp ex).1
      have epi : (p :: ps)[i]? = some ((p :: ps)[i]) := List.getElem?_eq_getElem hi
      have dx : Dp X.K H x (pPair ((p :: ps)[i])) := by
        refine dpall_get hd ex ?_
        rw [List.getElem?_map, epi]
        rfl
      obtain ⟨as2, rd2⟩ := Dp.reads I _ _ _ dx ru
      have e1 := (PyProof.Rows.reads_det (fun b o e _ => hk b o e) rd2 hr).1
      have e2 : minP p ps = (p :: ps)[i] := by
        have hx : ∃ z ∈ p :: ps, pPair z = PySem.W.minD (pPair p) (ps.map pPair) := ⟨_, List.getElem_mem hi, e1.symm⟩
        unfold minP
        rw [dif_pos hx]
        exact pPair_inj ((Classical.choose_spec hx).2.trans e1)
      exact ⟨x, H, I.kept hk, ru, q i x ex (by rw [e2]; exact epi)⟩
theorem foldl_min_mem : ∀ (ns : List Int) (n : Int), ns.foldl min n ∈ n :: ns ∧ ∀ y ∈ n :: ns, ns.foldl min n ≤ y
  | [], n => by simp
  | k :: r, n => by
    obtain ⟨h1, h2⟩ := foldl_min_mem r (min n k)
    rw [List.foldl_cons]
    refine ⟨?_, fun y hy => ?_⟩
    · rcases List.mem_cons.mp h1 with e | e
      · rw [e]
        rcases Int.le_total n k with h | h
        · rw [Int.min_eq_left h]; simp
        · rw [Int.min_eq_right h]; simp
      · exact List.mem_cons_of_mem _ (List.mem_cons_of_mem _ e)
    · have := h2 (min n k) (by simp)
      rcases List.mem_cons.mp hy with e | e
      · subst e; omega
      · rcases List.mem_cons.mp e with e | e
        · subst e; omega
        · exact h2 y (List.mem_cons_of_mem _ e)
theorem c_min : CaS1 X (fun xs H Q => rMin X.K xs H Q ∨ rMinP X.K xs H Q) gMin := by
  intro q σ H w d1 x d Q R h1 e k
  unfold gMin at e
  split at e
  · rename_i xs
    obtain ⟨a, vs, rfl, t, r⟩ := vlst h1
    split at e
    · rename_i n ns en
      cases e
      obtain ⟨m1, m2⟩ := foldl_min_mem ns n
      refine .inl ⟨a, n :: ns, rfl, .inl (.inl (by rw [← ints_of r en]; exact t)), by simp, fun m hm hle => ?_⟩
      have em : m = ns.foldl min n := Int.le_antisymm (hle _ m1) (m2 m hm)
      rw [em]
      exact k _ H (fun _ _ z => z) rfl
    · cases e
    · split at e
      · rename_i p ps ep
        cases e
        have ed := pairs_map ep
        have hc : PyData.canLayAll0 (pys xs) = true := by
          rw [ed]
          have : ∀ l : List (Int × Int), PyData.canLayAll0 (pys (l.map dPair)) = true := by
            intro l
            induction l with
            | nil => rfl
            | cons z l ih => simp only [List.map_cons, pys, PyData.canLayAll0, dPair, py, PyData.canLay0, ih]; rfl
          exact this _
        have hd := dps_of r hc
        have ep2 : ∀ l : List (Int × Int), pys (l.map dPair) = l.map pPair := by
          intro l
          induction l with
          | nil => rfl
          | cons z l ih => simp only [List.map_cons, pys, ih]; rfl
        rw [ed, ep2] at hd
        refine .inr ⟨a, vs, p, ps, rfl, .inl (.inl t), hd, fun i x hx hp => ?_⟩
        obtain ⟨y, hy, ry⟩ := r.get (i := i) (d := dPair (minP p ps)) (by rw [ed, List.getElem?_map, hp]; rfl)
        rw [hx] at hy
        cases hy
        exact k _ H (fun _ _ z => z) ry
      · cases e
  · cases e
theorem px_min (hc : X.calm = true) (hu : X.A.units + 64 < cLine) (hm : X.mg "min" = none) (ha : PX X W v p e m) (hg : Gl X "min" := by rfl) (he : starEach [e] X.env = (false, eval e X.env) :: starEach [] X.env := by rfl) (hpl : (backTo pos (starEach [] X.env)).any (·.1) = false := by rfl) :
    PX X W false p (.Call (.Name "min" ps) [e] [] pos) (m1 gMin m) := px_cb1 (CallR.or (cr_min hc) (cr_minP hc hu)) c_min (by decide +kernel) hm ha hg (by decide) (by decide) he hpl

/-! ### d.get(k, x) -/
def gGet2 (G : Tb) (d k z : D) : Option D := match d with
  | .dic false ks xs => (dGet false ks xs k).map fun o => o.getD z
  | .gl x => match k with
    | .str y => if (G x).isEmpty then none else some (((G x).lookup y).getD z)
    | _ => none
  | _ => none
def mget2 (G : Tb) (md mk mz : M8) : M8 := bnd md fun d => bnd mk fun k => bnd mz fun z q => mop (gGet2 G d k z) q
def isDic (G : Tb) : D → Bool
  | .dic false _ _ => true
  | .gl x => !(G x).isEmpty
  | _ => false
def mget2' (G : Tb) (md mk mz : M8) : M8 := bnd md fun d => if isDic G d = true then bnd mk fun k => bnd mz fun z q => mop (gGet2 G d k z) q else fun _ => .no
def tGet2 (K : PySem.W.Frag) (w : World) (td ty tx : TE) : TE := fun σ H Q => td σ H fun x H1 => ∃ a, x = .ref a ∧ (IsD H1 a ∨ ∃ es n, KDict K w a es n) ∧ ty σ H1 fun y H2 => tx σ H2 fun z H3 =>
  (∃ o, DGet H3 a y o ∧ Q (o.getD z) H3) ∨ ∃ es n k r, KDict K w a es n ∧ y = .str k ∧ PySem.W.nsIn K a k = some r ∧ (r = none → Q z H3) ∧ ∀ u, r = some u → ∃ v, RelV v u ∧ Q v H3
theorem pe_get2 {o e f : Expr} {td ty tx : TE} (hu : X.A.units + 1 < cLine) (ho : PE X o td) (he : PE X e ty) (hf : PE X f tx) (m : M2 X o "get" apos e f cpos) : PE X (.Call (.Attribute o "get" apos) [e, f] [] cpos) (tGet2 X.K X.w td ty tx) := by
  refine ⟨fun pins s σ H Q I h => ?_⟩
  refine wpAny_Call_method m.base m.few m.line PySem.F.plainAttrs_dict PySem.F.slot_dict_get PySem.F.type_dict_get (thn (ho.run pins s σ H _ I h) fun u s1 ⟨x, H1, I1, rx, a, ex, d, q1⟩ => ?_)
  subst ex
  obtain rfl : u = Value.ref a := rx
  have tt : s1.TypeIs (.ref a) "dict" ∧ ∀ b, Value.ref a = .ref b → ∃ ob, s1.heap.get? b = some ob ∧ ob.dict = none := by
    rcases d with d | ⟨es, n, d⟩
    · obtain ⟨t1, t2, _⟩ := isD_at I1 d
      exact ⟨t1, t2⟩
    · refine ⟨kd_type d I1, fun b e => ?_⟩
      cases e
      exact ⟨_, I1.kIn _ _ d.at_, rfl⟩
  refine ⟨tt.1, tt.2, ?_⟩
  rw [m.trees]
  refine Calls.callWith_builtin rfl (Calls.evalArgs_plain (Calls.spliced_cons (thn (he.run pins s1 σ H1 _ I1 q1) fun iv s2 ⟨y, H2, I2, ry, q2⟩ =>
    Calls.spliced_cons (thn (hf.run pins s2 σ H2 _ I2 q2) fun fv s3 ⟨z, H3, I3, rz, q3⟩ => Calls.spliced_nil ?_))))
  rcases q3 with ⟨ov, g, q3⟩ | ⟨es, n, k, r, D, ey, er, q0, q1⟩
  · exact d_get2 hu I3 g ry rz fun w' s4 I4 rw' => ⟨_, H3, I4, rw', q3⟩
  · subst ey
    obtain ⟨t, rfl⟩ := ry
    have dd := PySem.W.mapOf_K (prog := X.prog) (w := X.w) I3.kIn D.at_ D.lit
    refine call_meetsIn PySem.F.slot_dict_get dd.typeIs PySem.F.entry_dict_get (PySem.F.args_dict_get_3 _ _ _) (meets_dict_get_default (strKind X.prog X.w) a (PySem.strKind_is X.prog X.w k t) D.low fv) ⟨_, dd, ?_⟩
    rw [PySem.W.find_K D.at_ er]
    cases r with
    | none => exact ⟨z, H3, I3.tok _, rz, q0 rfl⟩
    | some u0 =>
      obtain ⟨v, rv, q⟩ := q1 u0 rfl
      exact ⟨v, H3, I3.tok _, rv, q⟩
theorem px_get2 {G : Tb} (hG : Tabs X.K X.w X.mg G) (hu : X.A.units + 64 < cLine) (ha : PX X W v p1 e ma) (hk : PX X W false p2 ek mk) (hz : PX X W false p3 ez mz) (m : M2 X e "get" apos ek ez cpos) (hv : v = true → (p2 && p3) = true := by decide) :
    PX X W false (p1 && (p2 && p3)) (.Call (.Attribute e "get" apos) [ek, ez] [] cpos) (mget2' G ma mk mz) :=
  peW (pe_get2 (by omega) ha hk hz m) fun σ H Q ⟨q, w, R, c⟩ => ⟨q, w, R, c.bnd fun d q1 x H1 w1 e1 F1 R1 r1 c1 => by
    by_cases hd : isDic G d = true
    · rw [if_pos hd] at c1
      have hr : ∃ a, x = .ref a ∧ (IsD H1 a ∨ ∃ es n, KDict X.K X.w a es n) := by
        cases d <;> first | (cases hd; done) | skip
        · rename_i t ks xs
          cases t <;> first | (cases hd; done) | skip
          obtain ⟨a, us, o, rfl, h, ⟨kk, ek, el, rfl⟩, r⟩ := vdic r1.view
          exact ⟨a, rfl, .inl (.inl ⟨_, .inl h⟩)⟩
        · rename_i y
          obtain ⟨a, hm, rfl⟩ := vgl r1.view
          obtain ⟨d, es, n, hm', D, _⟩ := (hG y ⟨a, hm⟩ (by intro z; simp [isDic, z] at hd)).ex
          rw [hm] at hm'
          cases hm'
          exact ⟨a, rfl, .inr ⟨es, n, D⟩⟩
      obtain ⟨a, rfl, ty⟩ := hr
      refine ⟨a, rfl, ty, q1, w1, R1, c1.bnd fun k q2 y H2 w2 e2 F2 R2 r2 c2 => ⟨q2, w2, R2, (ct_rt c2).bnd fun z q3 u H3 w3 e3 F3 R3 r3 c3 => ?_⟩⟩
      obtain ⟨d', ed, c4⟩ := Ct.op (show Ct X.K X.mg W true (VD X.K X.mg false) (mop (gGet2 G d k z)) q3 w3 σ H3 Q from c3)
      have rd := (VD.stay hv (F2.trans F3) r1).view
      have rk : DRep X.K X.mg w3.m w3.ow H3 k y := DRep.mono F3.mo r2
      cases d <;> first | (cases ed; done) | skip
      · rename_i t ks xs
        cases t <;> first | (cases ed; done) | skip
        obtain ⟨o, eo, rfl⟩ := Option.map_eq_some_iff.mp ed
        obtain ⟨a', us, ho, ea, h, hd', r⟩ := vdic rd
        cases ea
        obtain ⟨ov, g0, g1, g2⟩ := dget_of eo rk.view h hd' r
        cases o with
        | none =>
          cases g2 rfl
          exact .inl ⟨none, g0, c4.fin R3 u H3 (fun _ _ z => z) r3⟩
        | some dv =>
          obtain ⟨vv, rfl, rv⟩ := g1 dv rfl
          exact .inl ⟨some vv, g0, c4.fin R3 vv H3 (fun _ _ z => z) rv⟩
      · rename_i yy
        obtain ⟨a', hm, ea⟩ := vgl rd
        cases ea
        cases k <;> first | (cases ed; done) | skip
        rename_i kk
        have ed : (if (G yy).isEmpty then none else some (((G yy).lookup kk).getD z)) = some d' := ed
        split at ed
        · cases ed
        · rename_i hne
          obtain ⟨dd, es, n, hm', D, h0, h1⟩ := (hG yy ⟨a, hm⟩ (by intro z; rw [z] at hne; exact hne rfl)).ex
          rw [hm] at hm'
          cases hm'
          cases (show y = V.str kk from rk)
          cases el : (G yy).lookup kk with
          | none =>
            rw [el] at ed
            cases ed
            exact .inr ⟨es, n, kk, none, D, rfl, h0 kk el, fun _ => c4.fin R3 u H3 (fun _ _ z => z) r3, (fun u h => by cases h)⟩
          | some dv =>
            rw [el] at ed
            cases ed
            obtain ⟨uu, vv, e1, e2, e3⟩ := h1 kk _ el
            refine .inr ⟨es, n, kk, some uu, D, rfl, e1, (fun h => by cases h), fun u0 h => ?_⟩
            cases h
            exact ⟨vv, e2, c4.fin R3 vv H3 (fun _ _ z => z) (e3 _ _ _)⟩
    · rw [if_neg hd] at c1
      exact c1.elim⟩
end
end Fy

set_option maxHeartbeats 1000000
namespace Fy
open PySem PySem.Spec PySem.Calls PyProof.Rows L2

/-! ### a, .., *b = a tuple or a list -/
section
variable {prog : Program} {w : World} {A : Around} {E : Value → Shared → Prop} {s : Shared}
theorem star_rest {T : String} {l : Addr} {items : Array Value} {i : Nat} {Q : List Value → Shared → Prop} (hh : A.handled = none) (hz : items.size ≤ sizeLine) (hi : i ≤ items.size)
    (hsl : s.TypeIs (.ref l) T) (hno : T = "list" ∧ s.heap.IsList l items ∨ T = "tuple" ∧ PyProof.Rows.IsTup s.heap l items)
    (h : ∀ (h2 : Heap) (tk : Nat), (∀ b o, s.heap.get? b = some o → h2.get? b = some o) → Q (items.toList.take i ++ [.ref h2.objs.size] ++ []) { s with heap := h2.push { cls := .type "list", data := .seq (items.toList.drop i).toArray }, toks := tk }) :
    wpAny (model prog w) A (unpackItems (.ref l) (i + 1) (some i)) Q E s := by
  have hfl : (items.toList.take i).length = i := by rw [List.length_take, Array.length_toList]; omega
  have hrl : (items.toList.drop i).length = items.size - i := by rw [List.length_drop, Array.length_toList]
  have hm0 : (items.toList.drop i).length - (i + 1 - 1 - i) = items.size - i := by rw [hrl]; omega
  have ht0 : (items.toList.drop i).take (items.size - i) = items.toList.drop i := List.take_of_length_le (by rw [hrl]; exact Nat.le_refl _)
  have hd0 : (items.toList.drop i).drop (items.size - i) = [] := List.drop_eq_nil_of_le (by rw [hrl]; exact Nat.le_refl _)
  rcases hno with ⟨rfl, hl⟩ | ⟨rfl, hl⟩
  · have hlt : l ≠ s.heap.objs.size := by obtain ⟨o, ho, _⟩ := hl; exact Nat.ne_of_lt (Heap.lt_size ho)
    unfold unpackItems
    refine wpAny_bind ?_
    unfold notIterableAtAll
    refine wpAny_bind (wpAny_specialOf hl.typeIs slot_list_iter.lookup ?_)
    refine wpAny_pure ?_
    simp only [Bool.false_eq_true, if_false]
    refine wpAny_bind (wpAny_holding (wpAny_pyIter_list hl ?_))
    refine wpAny_bind (wpAny_holding (PySem.W.kun_draw hlt i 0 _ _ ⟨_, Heap.get?_push_size _ rfl, rfl, rfl⟩ (hl.push _) (by omega) fun h₁ hit₁ hs₁ => ?_))
    have hl₁ : h₁.IsList l items := (hl.push _).extBut hs₁.extBut hlt
    rw [Nat.zero_add] at hit₁
    have hit₁' := hit₁
    obtain ⟨oi, hoi, _⟩ := hit₁'
    have hl₁' := hl₁
    obtain ⟨ol, hol, _⟩ := hl₁'
    rw [List.drop_zero]
    rw [if_neg (show ¬ ((items.toList.take i).length < i) by rw [hfl]; omega)]
    refine wpAny_bind (wpAny_holding (PySem.W.kun_collect (s := { s with heap := h₁ }) (T := "list_iterator") (.inr (.inr (.inl rfl))) (Walks.list (A := A.in1) hh s.heap.objs.size l hlt items) (fun j u st => st.1.typeIs) (k := i) (by omega) ⟨hit₁, hl₁⟩ (Heap.lt_size hoi) (Heap.lt_size hol) (fun h₂ tk hk => ?_) hz))
    show wpAny _ _ (if (items.toList.drop i).length < i + 1 - 1 - i then _ else _) _ _ _
    rw [if_neg (by rw [hrl]; omega)]
    show wpAny _ _ (newList ((items.toList.drop i).take ((items.toList.drop i).length - (i + 1 - 1 - i))) >>= fun d => pure (items.toList.take i ++ [d] ++ (items.toList.drop i).drop ((items.toList.drop i).length - (i + 1 - 1 - i)))) _ _ _
    rw [hm0, ht0, hd0]
    refine wpAny_bind (wpAny_newList (wpAny_pure (h h₂ tk fun b o e => hk b o (Nat.ne_of_lt (Heap.lt_size e)) (hs₁.extBut b o (Nat.ne_of_lt (Heap.lt_size e)) (Heap.get?_push_of_some _ e)))) (by rw [hrl]; omega))
  · have hlt : l ≠ s.heap.objs.size := by obtain ⟨o, ho, _⟩ := hl; exact Nat.ne_of_lt (Heap.lt_size ho)
    unfold unpackItems
    refine wpAny_bind ?_
    unfold notIterableAtAll
    refine wpAny_bind (wpAny_specialOf hl.typeIs slot_tuple_iter.lookup ?_)
    refine wpAny_pure ?_
    simp only [Bool.false_eq_true, if_false]
    refine wpAny_bind (wpAny_holding (iter_tuple hl ?_))
    refine wpAny_bind (wpAny_holding (draw_tuple hlt i 0 _ _ ⟨_, Heap.get?_push_size _ rfl, rfl, rfl⟩ (hl.push _) (by omega) fun h₁ hit₁ hs₁ => ?_))
    have hl₁ : PyProof.Rows.IsTup h₁ l items := (hl.push _).extBut hs₁.extBut hlt
    rw [Nat.zero_add] at hit₁
    have hit₁' := hit₁
    obtain ⟨oi, hoi, _⟩ := hit₁'
    have hl₁' := hl₁
    obtain ⟨ol, hol, _⟩ := hl₁'
    rw [List.drop_zero]
    rw [if_neg (show ¬ ((items.toList.take i).length < i) by rw [hfl]; omega)]
    refine wpAny_bind (wpAny_holding (PySem.W.kun_collect (s := { s with heap := h₁ }) (T := "tuple_iterator") (.inr (.inr (.inr rfl))) (Walks.tuple (A := A.in1) hh s.heap.objs.size l hlt items) (fun j u st => st.1.typeIs) (k := i) (by omega) ⟨hit₁, hl₁⟩ (Heap.lt_size hoi) (Heap.lt_size hol) (fun h₂ tk hk => ?_) hz))
    show wpAny _ _ (if (items.toList.drop i).length < i + 1 - 1 - i then _ else _) _ _ _
    rw [if_neg (by rw [hrl]; omega)]
    show wpAny _ _ (newList ((items.toList.drop i).take ((items.toList.drop i).length - (i + 1 - 1 - i))) >>= fun d => pure (items.toList.take i ++ [d] ++ (items.toList.drop i).drop ((items.toList.drop i).length - (i + 1 - 1 - i)))) _ _ _
    rw [hm0, ht0, hd0]
    refine wpAny_bind (wpAny_newList (wpAny_pure (h h₂ tk fun b o e => hk b o (Nat.ne_of_lt (Heap.lt_size e)) (hs₁.extBut b o (Nat.ne_of_lt (Heap.lt_size e)) (Heap.get?_push_of_some _ e)))) (by rw [hrl]; omega))
end
/-- the targets ahead of the star: i of them, then the starred one -/
def gTupS (K : PySem.W.Frag) (i : Nat) (t : TGs) : TG := fun v σ H Q => ∃ a xs, v = .ref a ∧ (SqT K H a xs ∨ SqL K H a xs) ∧ i ≤ xs.length ∧ ∀ D, H D = none → t (xs.take i ++ [.ref D]) σ (upd H D (.lst (xs.drop i))) Q
def gstar (i : Nat) (gs : GTs) : GT := fun d q => match d with
  | .tup ds => if i ≤ ds.length then gs (ds.take i ++ [.lst (ds.drop i)]) q else none
  | .lst ds => if i ≤ ds.length then gs (ds.take i ++ [.lst (ds.drop i)]) q else none
  | _ => none
section
variable {X : Cx} {pos : Pos}
theorem vals_td {xs : List V} {us : List Value} (r : Vals xs us) (i : Nat) : Vals (xs.take i) (us.take i) ∧ Vals (xs.drop i) (us.drop i) := ⟨r.take i, r.drop i⟩
theorem pg_star {es : List Expr} {k i : Nat} {t : TGs} (hc : X.calm = true) (h : PGs X es t) (hn : (assignEach es X.env).length = i + 1) (hst : (assignEach es X.env).findIdx? (·.1) = some i) : PG X (.Tuple es k pos) (gTupS X.K i t) := by
  refine ⟨fun pins s σ H v u Q I r hw => ?_⟩
  obtain ⟨a, xs, e1, hq, hl, hw⟩ := hw
  subst e1
  cases r
  rw [PyProof.Rows.assign_Tuple]
  refine wpAny_bind (wpAny_standAt ?_)
  unfold unpack
  rw [hn, hst]
  have go : ∀ (its : List Value), Vals xs its → xs.length ≤ sizeLine → ∀ (h2 : Heap) (tk : Nat), (∀ b o, s.heap.get? b = some o → h2.get? b = some o) →
      wpAny (model X.prog X.w) X.A (assignInOrder ((assignEach es X.env).map (·.2)) (its.take i ++ [.ref h2.objs.size] ++ [])) (fun _ s' => ∃ σ' H', Inv X pins σ' H' s' ∧ Q σ' H') X.xe { s with heap := h2.push { cls := .type "list", data := .seq (its.drop i).toArray }, toks := tk } := by
    intro its rv hz h2 tk hk
    have I1 : Inv X pins σ H { s with heap := h2, toks := tk } := I.kept (t' := tk) hk
    have hn2 : H h2.objs.size = none := I1.hok.fresh (Nat.le_refl _)
    have I2 := I1.laid (h' := h2.push { cls := .type "list", data := .seq (its.drop i).toArray }) (t' := tk) (a := h2.objs.size) (o := .lst (xs.drop i)) (fun b o e => Heap.get?_push_of_some _ e) (Nat.le_refl _)
      ⟨by rw [List.length_drop]; omega, its.drop i, 0, rv.drop i, Heap.get?_push_size _ rfl⟩
    have rr : Vals (xs.take i ++ [.ref h2.objs.size]) (its.take i ++ [.ref h2.objs.size] ++ []) := by
      rw [List.append_nil]
      exact (rv.take i).append (.cons rfl .nil)
    exact h.run pins _ σ _ _ _ Q I2 rr (hw _ hn2)
  rcases hq with hq | hq
  · obtain ⟨its, rv, ht, hz⟩ := I.tuple hq
    have hlen := rv.length
    refine wpAny_bind (wpAny_holding (star_rest (T := "tuple") (items := its.toArray) (I.ok.hd hc) (by rw [List.size_toArray]; omega) (by rw [List.size_toArray]; omega) ht.typeIs (.inr ⟨rfl, ht⟩) fun h2 tk hk => ?_))
    exact go its rv hz h2 tk hk
  · obtain ⟨its, rv, pl, hz⟩ := I.list hq
    have hlen := rv.length
    refine wpAny_bind (wpAny_holding (star_rest (T := "list") (items := its.toArray) (I.ok.hd hc) (by rw [List.size_toArray]; omega) (by rw [List.size_toArray]; omega) pl.isList.typeIs (.inl ⟨rfl, pl.isList⟩) fun h2 tk hk => ?_))
    exact go its rv hz h2 tk hk
theorem pgs_star {t : Expr} {g : TG} {p : Pos} (h : PG X t g) : PGs X [.Starred t p] (gCons g gNil) := by
  refine ⟨fun pins s σ H vs us Q I r hw => ?_⟩
  obtain ⟨v, vr, e1, hw⟩ := hw
  subst e1
  cases r with
  | cons r rr =>
    show wpAny _ _ (assignInOrder [assign t X.env] _) _ _ _
    refine assignInOrder_cons (thn (h.run pins s σ H _ _ _ I r hw) fun _ s1 ⟨σ1, H1, I1, e2, q1⟩ => ?_)
    subst e2
    cases rr
    exact assignInOrder_nil ⟨σ1, H1, I1, q1⟩
theorem pgx_star1 {js : List Nat} {t : Expr} {g : GT} {p : Pos} (h : PGX X js t g) : PGXs X js [.Starred t p] (gcons g gnil) :=
  pgsW (pgs_star h) fun vs σ H Q ⟨q, w, ds, R, r, h⟩ => by
    unfold gcons gnil at h
    cases ds with
    | nil => exact h.elim
    | cons d dr =>
      obtain ⟨v, vr, ev, r1, r2⟩ := r
      refine ⟨v, vr, ev, q, w, d, R, r1, ?_⟩
      dsimp only at h
      cases eg : g d q with
      | none => rw [eg] at h; exact h.elim
      | some q1 =>
        rw [eg] at h
        cases dr with
        | cons _ _ => exact h.elim
        | nil => exact fun σ1 H1 k1 R1 l1 s1 => ⟨r2, h σ1 H1 k1 R1 l1 s1⟩
theorem pgx_tupS {js : List Nat} {es : List Expr} {k i : Nat} {gs : GTs} (hc : X.calm = true) (h : PGXs X js es gs) (hn : (assignEach es X.env).length = i + 1 := by rfl) (hst : (assignEach es X.env).findIdx? (·.1) = some i := by rfl) : PGX X js (.Tuple es k pos) (gstar i gs) :=
  pgW (pg_star (pos := pos) (k := k) hc h hn hst) fun v σ H Q ⟨q, w, d, R, r, h⟩ => by
    have go : ∀ {ds : List D} {vs : List V} {D : Addr}, DReps X.K X.mg w.m w.ow H ds vs → H D = none → (match (if i ≤ ds.length then gs (ds.take i ++ [.lst (ds.drop i)]) q else none) with
        | some q' => ∀ σ' H', (∀ a o, H a = some o → H' a = some o) → Rp X.K X.mg q' σ' H' w → σ'.length = σ.length → (∀ j, j ∉ js → σ'[j]? = σ[j]?) → Q σ' H'
        | none => False) → i ≤ vs.length ∧ RdGs X.K X.mg js gs (vs.take i ++ [.ref D]) σ (upd H D (.lst (vs.drop i))) Q := fun {ds vs Da} rr hD h => by
      have hl := rr.length
      by_cases hi : i ≤ ds.length
      · rw [if_pos hi] at h
        have r1 := rr.take i
        have r2 := rr.drop i
        refine ⟨by omega, q, w, _, R.ext (upd_keep hD), (DReps.mono (l := []) (mo_ext (upd_keep hD)) r1).append (show DReps X.K X.mg w.m w.ow _ [.lst (ds.drop i)] [.ref Da] from ⟨.ref Da, [], rfl, new_lst R hD r2, rfl⟩), ?_⟩
        cases eg : gs (ds.take i ++ [.lst (ds.drop i)]) q with
        | none => rw [eg] at h; exact h.elim
        | some q' =>
          rw [eg] at h
          exact fun σ' H' k => h σ' H' fun a o e => k a o (upd_keep hD a o e)
      · rw [if_neg hi] at h
        exact h.elim
    have nn : ∀ ds : List D, ¬ (i ≤ ds.length) → (match (if i ≤ ds.length then gs (ds.take i ++ [.lst (ds.drop i)]) q else none) with
        | some q' => ∀ σ' H', (∀ a o, H a = some o → H' a = some o) → Rp X.K X.mg q' σ' H' w → σ'.length = σ.length → (∀ j, j ∉ js → σ'[j]? = σ[j]?) → Q σ' H'
        | none => False) → False := fun ds hi h => by
      rw [if_neg hi] at h
      exact h
    unfold gstar at h
    cases d <;> first | exact h.elim | skip
    · rename_i ds
      obtain ⟨a, vs, ev, t, rr⟩ := vtup r
      by_cases hi : i ≤ ds.length
      · exact ⟨a, vs, ev, .inl t.sq, by rw [← rr.length]; exact hi, fun Da hD => (go rr hD h).2⟩
      · exact (nn ds hi h).elim
    · rename_i ds
      obtain ⟨a, vs, ev, t, n, rr⟩ := r
      by_cases hi : i ≤ ds.length
      · exact ⟨a, vs, ev, .inr (.inl (.inl t)), by rw [← rr.length]; exact hi, fun Da hD => (go rr hD h).2⟩
      · exact (nn ds hi h).elim

/-! ### a, b = x, y -/
def spar (i j : Nat) (ms : Q8 → Out (List D)) : S8 := bnd ms fun ds q => match ds with
  | [d, e] => if i < q.r.length ∧ j < q.r.length then .ok .nx { q with r := (q.r.set i (some (.d d))).set j (some (.d e)) } else .no
  | _ => .no
theorem sx_par {W : WX} {p : Bool} {i j : Nat} {x y : Str} {a b : Expr} {ms : Q8 → Out (List D)} {px py pt : Pos} {kt k2 pt2} (hc : X.calm = true) (hN : X.N.Nodup) (ha : PXa X W p [a, b] ms) (hi : X.N[i]? = some x := by rfl) (hj : X.N[j]? = some y := by rfl) (hij : i ≠ j := by decide)
    (hx : X.env.scope.names.lookup x = some .local := by rfl) (hy : X.env.scope.names.lookup y = some .local := by rfl)
    (hw : swappedStores [.Tuple [.Name x px, .Name y py] kt pt] (.Tuple [a, b] k2 pt2) X.env = pure (some [x, y]) := by rfl)
    (hs : swapsWithSole [.Tuple [.Name x px, .Name y py] kt pt] (.Tuple [a, b] k2 pt2) pos.line X.env = pure false := by rfl) :
    SX X W (.Assign [.Tuple [.Name x px, .Name y py] kt pt] (.Tuple [a, b] k2 pt2) pos) (spar i j ms) :=
  psW (ps_par hc hN hi hj hij hx hy ha hw hs) fun D σ H ⟨q, w, R, h⟩ => ⟨q, w, R, h.bnd fun ds q1 vs H1 w1 e1 F1 R1 r1 h1 => by
    unfold CtS at h1
    match ds, r1, h1 with
    | [d, e], ⟨v, vr, ev, ra, u, ur, eu, rb, en⟩, h1 =>
      cases (show ur = [] from en)
      subst eu
      subst ev
      dsimp only at h1
      by_cases hl : i < q1.r.length ∧ j < q1.r.length
      · rw [if_pos hl] at h1
        obtain ⟨w2, R2, F2⟩ := R1.putD hl.1 ra
        obtain ⟨w3, R3, F3⟩ := R2.putD (i := j) (by simpa using hl.2) (DRep.mono F2.mo rb)
        exact ⟨v, u, rfl, h1 _ H1 w3 (F2.trans F3).loose R3⟩
      · rw [if_neg hl] at h1
        exact h1.elim
    | [], _, h1 => exact h1.elim
    | [_], _, h1 => exact h1.elim
    | _ :: _ :: _ :: _, _, h1 => exact h1.elim⟩
end
end Fy

set_option maxHeartbeats 1000000
namespace Fy
open PySem PySem.Spec PyProof.Rows L2

/-! ### a second clause: a loop within the turn -/
def rmv (D : Addr) (H : Hp) : Hp := fun a => if a = D then none else H a
theorem rmv_ne {D a : Addr} {H : Hp} (h : a ≠ D) : rmv D H a = H a := by unfold rmv; rw [if_neg h]
theorem rmv_some {D a : Addr} {H : Hp} {o : HO} (h : rmv D H a = some o) : a ≠ D ∧ H a = some o := by
  unfold rmv at h
  split at h
  · cases h
  · exact ⟨by assumption, h⟩
theorem rmv_upd {D : Addr} {H : Hp} {o : HO} : rmv D (L2.upd H D o) = rmv D H := by
  funext a
  unfold rmv
  split
  · rfl
  · rw [upd_ne (by assumption)]
section
variable {K : PySem.W.Frag} {mg : Str → Option Value} {W : WX} {A : Type} {p : Bool} {w w1 w3 w4 : Wd} {H H1 H3 H4 : Hp} {Da : Addr}
theorem Fr.stepD (F : Fr p (rmv Da H1) w1 (rmv Da H3) w3) (G : Fr p H3 (w3.plus Da) H4 w4) : Fr p (rmv Da H1) w1 (rmv Da H4) (w4.minus w3) where
  keep := fun a u e n => by
    obtain ⟨e1, e2⟩ := rmv_some (F.keep a u e n)
    rw [rmv_ne e1]
    exact G.keep a u e2 (F.out a (by rw [e]; simp) n)
  out := fun a e n => by
    cases q : rmv Da H1 a with
    | none => exact absurd q e
    | some u =>
      obtain ⟨e1, e2⟩ := rmv_some (F.keep a u q n)
      exact G.out a (by rw [e2]; simp) (F.out a e n)
  oo := F.oo
  ro := G.ro.trans F.ro
  m := F.m.trans G.m
  pure := fun z => by
    obtain ⟨e1, k1⟩ := F.pure z
    obtain ⟨e2, k2⟩ := G.pure z
    exact ⟨by rw [e2, ← e1]; rfl, fun a u e => by
      obtain ⟨e3, e4⟩ := rmv_some (k1 a u e)
      rw [rmv_ne e3]
      exact k2 a u e4⟩
theorem Fr.rmvExt (k : ∀ a o, H a = some o → H1 a = some o) : Fr p (rmv Da H) w (rmv Da H1) w := Fr.ext fun a o e => by
  obtain ⟨e1, e2⟩ := rmv_some e
  rw [rmv_ne e1]; exact k a o e2
theorem loop_in {p1 : Bool} {js vs : List Nat} {g : GT} {t : Q8 → Out Bool} {e : A → Q8 → Out A} {a0 : A} {stp : L2.St → Hp → Addr → (Hp → Prop) → Prop}
    (AR : List Addr → (Addr → Prop) → Hp → Addr → A → HO → Prop) (ARm : ∀ {m m' : List Addr} {ow ow' : Addr → Prop} {H H' : Hp} {Da : Addr} {a : A} {o : HO}, Mo m m' ow ow' [] H H' → AR m ow H Da a o → AR m' ow' H' Da a o)
    (hstp : ∀ {acc : A} {q : Q8} {σ : L2.St} {H : Hp} {w : Wd} {Da : Addr} {o : HO} {Nx : Hp → Prop}, Rp K mg q σ H (w.plus Da) → ¬ w.ro Da → H Da = some o → AR w.m (w.plus Da).ow H Da acc o →
      (Ok8 (e acc q) fun acc' q' => ∀ H4 w4 o', Fr p1 H (w.plus Da) H4 (Wd.plus w4 Da) → w4.oo = w.oo → Rp K mg q' σ (upd H4 Da o') (w4.plus Da) → AR w4.m (w4.plus Da).ow (upd H4 Da o') Da acc' o' → Nx (upd H4 Da o')) → stp σ H Da Nx)
    (hj : ∀ i ∈ js, i ∈ vs) {σ : L2.St} {NX : Hp → Prop} {q1 : Q8} {J : It} {H1 : Hp} {w1 : Wd} {Da : Addr} {o1 : HO} {ds : List D} (R1 : Rp K mg q1 σ H1 (w1.plus Da)) (hro : ¬ w1.ro Da) (hD1 : H1 Da = some o1) (ar1 : AR w1.m (w1.plus Da).ow H1 Da a0 o1)
    (r1 : ItOk K mg false J ds H1 (w1.plus Da)) (ho : okW q1.r vs = true)
    (hres : Ok8 (tnL g t e vs ds a0 ⟨wipeR q1.r vs, q1.s, q1.w⟩) fun acc q' => ∀ H w o, Fr p1 (rmv Da H1) w1 (rmv Da H) w → Rp K mg q' σ H (w.plus Da) → AR w.m (w.plus Da).ow H Da acc o → H Da = some o → NX H) :
    ∃ W : Nat → Nat → Hp → Prop, (∃ m, W 0 m H1) ∧ ∀ i m H, W i m H →
      (J.stop i H ∧ NX H) ∨ (J.go i H ∧ ∃ Nx : Hp → Prop, (∀ H', Nx H' → ∃ m', m' < m ∧ W (i + 1) m' H') ∧ ∀ x H', J.yld i H x H' → RdG K mg js g x (wipe σ vs) H' fun σ2 H2 => wipe σ2 vs = wipe σ vs ∧ Rd K mg W00 p1 relB t σ2 H2 fun b H3 =>
        if b = true then stp σ2 H3 Da Nx else Nx H3) := by
  have Rw : Rp K mg ⟨wipeR q1.r vs, q1.s, q1.w⟩ (wipe σ vs) H1 (w1.plus Da) := R1.forget ho (wipe_length ..) fun i hi => wipe_ne hi
  have nfp1 : Da ∉ w1.fp := fun z => R1.apart Da z (.inr rfl)
  let Fin : A → Q8 → Nat → Prop := fun acc q i => Ok8 (tnL g t e vs (ds.drop i) acc q) fun acc q' => ∀ H w o, Fr p1 (rmv Da H1) w1 (rmv Da H) w → Rp K mg q' σ H (w.plus Da) → AR w.m (w.plus Da).ow H Da acc o → H Da = some o → NX H
  refine ⟨fun i n H => ∃ acc q w o, i + n = ds.length ∧ Rp K mg q (wipe σ vs) H (Wd.plus w Da) ∧ Fr p1 (rmv Da H1) w1 (rmv Da H) w ∧ H Da = some o ∧ AR w.m (w.plus Da).ow H Da acc o ∧ (∀ j ∈ vs, q.r[j]? = some none) ∧ Fin acc q i,
    ⟨ds.length, a0, _, w1, o1, by omega, Rw, Fr.refl, hD1, ar1, fun j hj => wipeR_mem hj (datS_lt (List.all_eq_true.mp ho j hj)), hres⟩, fun i n H ⟨acc, q, w, o, hlen, R, F, hD, ar, hs, c⟩ => ?_⟩
  have hro' : ¬ w.ro Da := fun z => hro (by rw [← F.ro]; exact z)
  have mv : Mv false (w1.plus Da).m (w.plus Da).m (w1.plus Da).ow (w.plus Da).ow H1 H := by
    refine ⟨⟨F.m, fun a u e z => ?_, fun a e n x => ?_⟩, fun z => nomatch z⟩
    · have ne : a ≠ Da := fun z' => z.elim (fun z => z (plus_ow.mpr (.inr z'))) (by simp)
      have nf : a ∉ w1.fp := fun z' => z.elim (fun z => z (plus_ow.mpr (.inl (.inl z')))) (by simp)
      exact (rmv_some (F.keep a u (by rw [rmv_ne ne]; exact e) nf)).2
    · have ne : a ≠ Da := fun z' => n (plus_ow.mpr (.inr z'))
      rcases plus_ow.mp x with x | x
      · rcases x with x | x
        · exact F.out a (by rw [rmv_ne ne]; exact e) (fun z => n (plus_ow.mpr (.inl (.inl z)))) x
        · rw [F.oo] at x
          exact n (plus_ow.mpr (.inl (.inr x)))
      · exact ne x
  obtain ⟨ig, is⟩ := r1 H (w.plus Da).m (w.plus Da).ow i mv R.there
  have c' : Ok8 (tnL g t e vs (ds.drop i) acc q) fun acc q' => ∀ H w o, Fr p1 (rmv Da H1) w1 (rmv Da H) w → Rp K mg q' σ H (w.plus Da) → AR w.m (w.plus Da).ow H Da acc o → H Da = some o → NX H := c
  cases n with
  | zero =>
    have ei : i = ds.length := by omega
    refine .inl ⟨is ei, ?_⟩
    rw [List.drop_eq_nil_of_le (by omega)] at c'
    unfold Ok8 at c'
    have fre : ∀ j : Nat, q.r[j]? = some none ∨ σ[j]? = (wipe σ vs)[j]? := fun j => by
      by_cases hj : j ∈ vs
      · exact .inl (hs j hj)
      · exact .inr (wipe_ne hj).symm
    exact c' H w o F (R.frees (by rw [wipe_length]) fre) ar hD
  | succ n =>
    have hi : i < ds.length := by omega
    obtain ⟨go, yl⟩ := ig ds[i] (List.getElem?_eq_getElem hi)
    refine .inr ⟨go, fun H => ∃ acc q w o, i + 1 + n = ds.length ∧ Rp K mg q (wipe σ vs) H (Wd.plus w Da) ∧ Fr p1 (rmv Da H1) w1 (rmv Da H) w ∧ H Da = some o ∧ AR w.m (w.plus Da).ow H Da acc o ∧ (∀ j ∈ vs, q.r[j]? = some none) ∧ Fin acc q (i + 1), fun H' z => ⟨n, Nat.lt_succ_self n, z⟩, fun x H' hy => ?_⟩
    obtain ⟨kx0, rx⟩ := yl x H' hy
    rw [List.drop_eq_getElem_cons hi] at c'
    refine ⟨q, w.plus Da, ds[i], R.ext kx0, rx, ?_⟩
    unfold tnL Ok8 at c'
    cases eg : g ds[i] q with
    | none => rw [eg] at c'; exact c'
    | some q2 =>
      rw [eg] at c'
      dsimp only at c'
      refine fun σ2 H'' k2 R2 l2 s2 => ⟨wipe_eq (by rw [l2, wipe_length]) fun j hj' => by rw [s2 j (fun z => hj' (hj j z)), wipe_ne hj'], ?_⟩
      have kx : ∀ b o, H b = some o → H'' b = some o := fun b o e => k2 b o (kx0 b o e)
      have F' : Fr p1 (rmv Da H1) w1 (rmv Da H'') w := by
        have := F.trans (Fr.rmvExt (p := p1) (Da := Da) (w := w) kx)
        rwa [Bool.and_self] at this
      have hD' : H'' Da = some o := kx _ _ hD
      have ap : Da ∉ (w.plus Da).fp := fun z => R.apart Da z (.inr rfl)
      have nxt : ∀ {acc' : A} {q4 : Q8} {H4 : Hp} {w4 : Wd} {o' : HO}, Rp K mg q4 σ2 H4 (w4.plus Da) → Fr p1 (rmv Da H1) w1 (rmv Da H4) w4 → H4 Da = some o' → AR w4.m (w4.plus Da).ow H4 Da acc' o' → okW q4.r vs = true → Fin acc' ⟨wipeR q4.r vs, q4.s, q4.w⟩ (i + 1) →
          ∃ acc q w o, i + 1 + n = ds.length ∧ Rp K mg q (wipe σ vs) H4 (Wd.plus w Da) ∧ Fr p1 (rmv Da H1) w1 (rmv Da H4) w ∧ H4 Da = some o ∧ AR w.m (w.plus Da).ow H4 Da acc o ∧ (∀ j ∈ vs, q.r[j]? = some none) ∧ Fin acc q (i + 1) :=
        fun {acc' q4 H4 w4 o'} R4 F4 hD4 ar4 ok4 c4 => ⟨acc', _, w4, o', by omega, R4.forget ok4 (by rw [wipe_length, l2, wipe_length]) fun j hj' => by rw [wipe_ne hj', s2 j (fun z => hj' (hj j z)), wipe_ne hj'], F4, hD4, ar4, fun j hj' => wipeR_mem hj' (datS_lt (List.all_eq_true.mp ok4 j hj')), c4⟩
      refine ⟨q2, w.plus Da, R2, ?_⟩
      unfold Ct
      cases et : t q2 with
      | no => rw [et] at c'; exact c'
      | exc x q3 => rw [et] at c'; exact c'.elim
      | ok b q3 =>
        rw [et] at c'
        intro b' H3 w3' F3 R3 rb
        cases (show b' = b from rb)
        obtain ⟨ew, er⟩ := plus_of F3.oo F3.ro
        have hD3 : H3 Da = some o := F3.keep _ _ hD' ap
        have FF : Fr p1 (rmv Da H1) w1 (rmv Da H3) (w3'.minus w) := F'.stepD F3
        rw [ew] at R3
        have ar3 : AR (w3'.minus w).m ((w3'.minus w).plus Da).ow H3 Da acc o := by
          rw [← ew]
          exact ARm F3.mo (ARm (mo_ext kx) ar)
        cases b with
        | false =>
          simp only [Bool.false_eq_true, if_false]
          dsimp only at c'
          by_cases ok3 : okW q3.r vs = true
          · rw [if_pos ok3] at c'
            exact nxt R3 FF hD3 ar3 ok3 c'
          · rw [if_neg ok3] at c'
            exact c'.elim
        | true =>
          simp only [if_true]
          refine hstp R3 (by rw [er]; exact hro') hD3 ar3 ?_
          unfold Ok8
          dsimp only at c'
          cases ee : e acc q3 with
          | no => rw [ee] at c'; exact c'
          | exc x q4 => rw [ee] at c'; exact c'
          | ok acc' q4 =>
            rw [ee] at c'
            intro H4 w4 o' F4 oo4 R4 ar4
            dsimp only at c'
            by_cases ok4 : okW q4.r vs = true
            · rw [if_pos ok4] at c'
              have F5 : Fr p1 (rmv Da H1) w1 (rmv Da H4) ((w4.plus Da).minus (w3'.minus w)) := FF.stepD F4
              have e5 : (w4.plus Da).minus (w3'.minus w) = w4 := by
                cases w4
                simp only at oo4
                subst oo4
                rfl
              rw [e5] at F5
              exact nxt R4 (by rw [rmv_upd]; exact F5) upd_same ar4 ok4 c'
            · rw [if_neg ok4] at c'
              exact c'.elim
end
/-- the turn of a first clause: the second clause's loop -/
def st2 {A : Type} (it : Q8 → Out (List D)) (g : GT) (t : Q8 → Out Bool) (e : A → Q8 → Out A) (vs : List Nat) : A → Q8 → Out A := fun acc => bnd it fun ds q =>
  if okW q.r vs = true then tnL g t e vs ds acc ⟨wipeR q.r vs, q.s, q.w⟩ else .no
def mlc2 (it : Q8 → Out (List D)) (g : GT) (t : Q8 → Out Bool) (it1 : Q8 → Out (List D)) (g1 : GT) (t1 : Q8 → Out Bool) (e : M8) (vs vs1 : List Nat) : M8 := mcomp it g t (st2 it1 g1 t1 (stL e) vs1) vs [] (fun a => mret (.lst a))
section
variable {X : Cx} {W : WX} {v p0 p1 : Bool} {elt tg iter tg1 iter1 : Expr} {ifs ifs1 : List Expr} {scope : Scope} {own : List (Str × Nat)} {vs1 : List Nat} {pos : Pos} {it it1 : Q8 → Out (List D)} {g g1 : GT} {t t1 : Q8 → Out Bool} {e : M8} {js js1 : List Nat}
theorem stp_lc2 (hj1 : ∀ i ∈ js1, i ∈ vs1) {acc : List D} {q : Q8} {σ : L2.St} {H : Hp} {w : Wd} {Da : Addr} {o : HO} {Nx : Hp → Prop} (R : Rp X.K X.mg q σ H (w.plus Da)) (hro : ¬ w.ro Da) (hD : H Da = some o) (ar : ARl X.K X.mg w.m (w.plus Da).ow H Da acc o)
    (hm : Ok8 (st2 it1 g1 t1 (stL e) vs1 acc q) fun acc' q' => ∀ H4 w4 o', Fr p1 H (w.plus Da) H4 (Wd.plus w4 Da) → w4.oo = w.oo → Rp X.K X.mg q' σ (upd H4 Da o') (w4.plus Da) → ARl X.K X.mg w4.m (w4.plus Da).ow (upd H4 Da o') Da acc' o' → Nx (upd H4 Da o')) :
    RdI X.K X.mg W00 false p1 it1 σ H fun J1 H4 => ∃ W1 : Nat → Nat → Hp → Prop, (∃ m, W1 0 m H4) ∧ ∀ j k H, W1 j k H →
      (J1.stop j H ∧ Nx H) ∨ (J1.go j H ∧ ∃ Nx1 : Hp → Prop, (∀ H', Nx1 H' → ∃ k', k' < k ∧ W1 (j + 1) k' H') ∧ ∀ x H', J1.yld j H x H' → RdG X.K X.mg js1 g1 x (wipe σ vs1) H' fun σ3 H5 => wipe σ3 vs1 = wipe σ vs1 ∧ Rd X.K X.mg W00 p1 relB t1 σ3 H5 fun b H6 =>
        if b = true then Rd X.K X.mg W00 p1 (VD X.K X.mg false) e σ3 H6 fun y H7 => ∃ acc, H7 Da = some (.lst acc) ∧ acc.length < sizeLine ∧ Nx1 (upd H7 Da (.lst (acc ++ [y]))) else Nx1 H6) := by
  refine ⟨q, w.plus Da, R, ?_⟩
  unfold Ct
  unfold st2 bnd at hm
  cases ei : it1 q with
  | no => rw [ei] at hm; exact hm
  | exc x q' => rw [ei] at hm; exact hm.elim
  | ok ds q1 =>
    rw [ei] at hm
    dsimp only at hm
    intro J H1 w1' F1 R1 r1
    obtain ⟨ew, er⟩ := plus_of F1.oo F1.ro
    have hD1 : H1 Da = some o := F1.keep _ _ hD fun z => R.apart Da z (.inr rfl)
    have ar1 := (show ARl X.K X.mg w1'.m w1'.ow H1 Da acc o from let ⟨vs, e, r⟩ := ar; ⟨vs, e, r.mono F1.mo⟩)
    rw [ew] at R1 r1 ar1
    by_cases ho : okW q1.r vs1 = true
    · rw [if_pos ho] at hm
      refine loop_in (stp := fun σ2 H3 D Nx => Rd X.K X.mg W00 p1 (VD X.K X.mg false) e σ2 H3 fun y H4 => ∃ acc, H4 D = some (.lst acc) ∧ acc.length < sizeLine ∧ Nx (upd H4 D (.lst (acc ++ [y])))) (ARl X.K X.mg)
        (fun x ⟨vs, e, r⟩ => ⟨vs, e, r.mono x⟩) (fun R hro hD ar hm => stp_lc (X := X) R hro hD ar hm) hj1 R1 (by rw [er]; exact hro) hD1 ar1 r1 ho ?_
      unfold Ok8 at hm ⊢
      cases et : tnL g1 t1 (stL e) vs1 ds acc ⟨wipeR q1.r vs1, q1.s, q1.w⟩ with
      | no => rw [et] at hm; exact hm
      | exc x q' => rw [et] at hm; exact hm
      | ok acc' q' =>
        rw [et] at hm
        intro Hf wf of Ff Rf arf hDf
        have eH : upd (upd Hf Da o) Da of = Hf := by
          funext a
          by_cases ea : a = Da
          · subst ea; rw [upd_same, hDf]
          · rw [upd_ne ea, upd_ne ea]
        have oof : wf.oo = w.oo := Ff.oo
        have F2 : Fr p1 H (w.plus Da) (upd Hf Da o) (wf.plus Da) := by
          have Fa : Fr p1 H (w.plus Da) H1 ((w1'.minus w).plus Da) := by rw [← ew]; exact F1
          refine ⟨fun a u e n => ?_, fun a e n z => ?_, ?_, Ff.ro.trans Fa.ro, Fa.m.trans Ff.m, fun z => ?_⟩
          · by_cases ea : a = Da
            · subst ea; rw [upd_same, ← hD]; exact e
            · rw [upd_ne ea]
              exact (rmv_some (Ff.keep a u (by rw [rmv_ne ea]; exact Fa.keep a u e n) (Fa.out a (by rw [e]; simp) n))).2
          · by_cases ea : a = Da
            · subst ea; exact Rf.apart a z (.inr rfl)
            · cases hq : H a with
              | none => exact e hq
              | some u => exact Ff.out a (by rw [rmv_ne ea, Fa.keep a u hq n]; simp) (Fa.out a e n) z
          · show (fun a => wf.oo a ∨ a = Da) = fun a => w.oo a ∨ a = Da
            rw [oof]
          · obtain ⟨e1, k1⟩ := Fa.pure z
            obtain ⟨e2, k2⟩ := Ff.pure z
            refine ⟨?_, fun a u e => ?_⟩
            · rw [e2]; exact e1
            · by_cases ea : a = Da
              · subst ea; rw [upd_same, ← hD]; exact e
              · rw [upd_ne ea]
                exact (rmv_some (k2 a u (by rw [rmv_ne ea]; exact k1 a u e))).2
        have := hm (upd Hf Da o) wf of F2 oof (by rw [eH]; exact Rf) (by rw [eH]; exact arf)
        rwa [eH] at this
    · rw [if_neg ho] at hm
      exact hm.elim
theorem px_lc2 (hc : X.calm = true) (hN : X.N.Nodup) (hi : PIX X W v p0 tg iter it) (ok : BlkOk X.N X.env.scope scope own)
    (hg : ∀ (s : Shared) (H : Hp) (C : Addr) (cl : List (Str × Addr)) (fp : List Addr), PGX (X.blk s H scope (compEnvC scope cl C X.env) fp) js tg g)
    (ht : ∀ (s : Shared) (H : Hp) (C : Addr) (cl : List (Str × Addr)) (fp : List Addr), PTX (X.blk s H scope (compEnvC scope cl C X.env) fp) W00 p1 ifs t)
    (hi1 : ∀ (s : Shared) (H : Hp) (C : Addr) (cl : List (Str × Addr)) (fp : List Addr), PIX (X.blk s H scope (compEnvC scope cl C X.env) fp) W00 false p1 tg1 iter1 it1)
    (hg1 : ∀ (s : Shared) (H : Hp) (C : Addr) (cl : List (Str × Addr)) (fp : List Addr), PGX (X.blk s H scope (compEnvC scope cl C X.env) fp) js1 tg1 g1)
    (ht1 : ∀ (s : Shared) (H : Hp) (C : Addr) (cl : List (Str × Addr)) (fp : List Addr), PTX (X.blk s H scope (compEnvC scope cl C X.env) fp) W00 p1 ifs1 t1)
    (he : ∀ (s : Shared) (H : Hp) (C : Addr) (cl : List (Str × Addr)) (fp : List Addr), PX (X.blk s H scope (compEnvC scope cl C X.env) fp) W00 false p1 elt e)
    (hs : ∀ x, foldedSetIterable iter X.env x = pure x := by intro _; rfl) (hs1 : ∀ env x, foldedSetIterable iter1 env x = pure x := by intro _ _; rfl) (hv1 : ∀ i ∈ vs1, i ∈ own.map (·.2) := by decide) (hj : ∀ i ∈ js, i ∈ own.map (·.2) := by decide) (hj1 : ∀ i ∈ js1, i ∈ vs1 := by decide) (hv : v = true → p1 = true := by decide) :
    PX X W false (p0 && p1) (.ListComp elt [⟨tg, iter, ifs, 0⟩, ⟨tg1, iter1, ifs1, 0⟩] scope pos) (mlc2 it g t it1 g1 t1 e (own.map (·.2)) vs1) :=
  peW (pe_lc2 hc hN hi ok hv1 hg ht hi1 hg1 ht1 he hs hs1) fun _ _ _ h => comp_of (o0 := fun _ => .lst []) (stp := fun σ2 H3 D Nx => RdI X.K X.mg W00 false p1 it1 σ2 H3 fun J1 H4 => ∃ W1 : Nat → Nat → Hp → Prop, (∃ m, W1 0 m H4) ∧ ∀ j k H, W1 j k H →
      (J1.stop j H ∧ Nx H) ∨ (J1.go j H ∧ ∃ Nx1 : Hp → Prop, (∀ H', Nx1 H' → ∃ k', k' < k ∧ W1 (j + 1) k' H') ∧ ∀ x H', J1.yld j H x H' → RdG X.K X.mg js1 g1 x (wipe σ2 vs1) H' fun σ3 H5 => wipe σ3 vs1 = wipe σ2 vs1 ∧ Rd X.K X.mg W00 p1 relB t1 σ3 H5 fun b H6 =>
        if b = true then Rd X.K X.mg W00 p1 (VD X.K X.mg false) e σ3 H6 fun y H7 => ∃ acc, H7 D = some (.lst acc) ∧ acc.length < sizeLine ∧ Nx1 (upd H7 D (.lst (acc ++ [y]))) else Nx1 H6)) (ARl X.K X.mg)
    (fun x ⟨vs, e, r⟩ => ⟨vs, e, r.mono x⟩) ⟨[], rfl, (show DReps _ _ _ _ _ [] [] from rfl)⟩ (fun R hro hD ar hm => stp_lc2 (X := X) hj1 R hro hD ar hm) hj hv
    (fun {acc q H w Da o} R ⟨vs, eo, r⟩ hD hn c => (show Ct X.K X.mg W p1 (VD X.K X.mg false) (mret (.lst acc)) q w _ H _ from c).fin R (.ref Da) H (fun _ _ z => z) (show DRep X.K X.mg w.m w.ow H (.lst acc) (.ref Da) from ⟨Da, vs, rfl, by rw [hD, eo], hn, r⟩)) h
end
end Fy

set_option maxHeartbeats 1000000
namespace L2
open PySem PySem.Spec PyProof.Rows PpSet
section
variable {X : Cx}
/-- {elt for target in iter if ..}, elt a whole number: D the new set -/
def tScI (w : World) (wi : TI) (g : TG) (tt : TT) (te : TE) (vs : List Nat) : TE := fun σ H Q => wi σ H fun J H1 => ∀ D, H1 D = none → ∃ W : Nat → Nat → Hp → Prop, (∃ m, W 0 m (upd H1 D (SetO w D (fun _ => false) 0))) ∧ ∀ i m H, W i m H →
  (J.stop i H ∧ Q (.ref D) H) ∨ (J.go i H ∧ ∃ Nx : Hp → Prop, (∀ H', Nx H' → ∃ m', m' < m ∧ W (i + 1) m' H') ∧ ∀ x H', J.yld i H x H' → g x (wipe σ vs) H' fun σ2 H2 => wipe σ2 vs = wipe σ vs ∧ tt σ2 H2 fun b H3 =>
    if b = true then te σ2 H3 fun y H4 => rSAdd w (.ref D) [y] H4 fun _ H5 => Nx H5 else Nx H3)
theorem fy_setcomp {elt tg iter : Expr} {ifs : List Expr} {scope : Scope} {own : List (PySem.Str × Nat)} {pos : Pos} {wi : TI} {g : TG} {tt : TT} {te : TE} (hc : X.calm = true) (hN : X.N.Nodup) (hi : PI X tg iter wi) (ok : BlkOk X.N X.env.scope scope own)
    (hg : ∀ (s : Shared) (H : Hp) (C : Addr) (cl : List (PySem.Str × Addr)) (fp : List Addr), PG (X.blk s H scope (compEnvC scope cl C X.env) fp) tg g) (ht : ∀ (s : Shared) (H : Hp) (C : Addr) (cl : List (PySem.Str × Addr)) (fp : List Addr), PTs (X.blk s H scope (compEnvC scope cl C X.env) fp) ifs tt)
    (he : ∀ (s : Shared) (H : Hp) (C : Addr) (cl : List (PySem.Str × Addr)) (fp : List Addr), PE (X.blk s H scope (compEnvC scope cl C X.env) fp) elt te) (hs : ∀ x, foldedSetIterable iter X.env x = pure x := by intro _; rfl) :
    PE X (.SetComp elt [⟨tg, iter, ifs, 0⟩] scope pos) (tScI X.w wi g tt te (own.map (·.2))) := by
  refine ⟨fun pins s σ H Q I h => ?_⟩
  rw [eval_SetComp]
  have hfree : ∀ y ∈ scope.names, y.2 = .free → ∃ c, X.env.cells.lookup y.1 = some c := fun y hy e => by
    rcases ok.free y hy e with k | k
    · exact I.ok.has _ (.inl k)
    · exact I.ok.has _ (.inr k)
  have hRR : ∀ D C s' m H', Inv X pins σ H' s' → Q (.ref D) H' → s'.heap.Ns C m → FpOk X pins H' C → compPost (model X.prog X.w) X.A X.xe none (EP X pins σ Q) (.ref D) C (.ok .next) s' := fun D C s' m H' I' q hn f => ⟨m, hn, fun h'' sb => by
    obtain ⟨f0, f1, f2, f3, f4, f5⟩ := f
    exact ⟨.ref D, H', I'.turned (t' := s'.toks) (fun b o hb e => (sb.2 b hb).trans e) f0 f1 f3 f4 f5, rfl, q⟩⟩
  refine wpAny_comprehension_free (use := none) rfl hs (closure_ok hfree) ok.kind (fun y hy e => by rw [ok.uniq y hy, e])
    (thn (hi.run pins s σ H _ I h) fun xv s1 hx => thn hx fun itv s2 h2 => ?_)
  obtain ⟨it, fp, tn, J, H2, e, I2, T, st2, f2, q⟩ := h2
  subst e
  refine newSet_ok (newEnv_comp ?_)
  generalize hD : s2.heap.objs.size = D
  have hDn : H2 D = none := I2.hok.fresh (Nat.le_of_eq hD)
  obtain ⟨W, ⟨m0, w0⟩, turn⟩ := q D hDn
  generalize hs3 : ({ s2 with heap := s2.heap.push { cls := .type "set", dict := none, data := .set #[] 0 (.fresh 0 0 (!X.w.params.followText "set-order")) } } : Shared) = s3
  have I3 : Inv X pins σ (upd H2 D (SetO X.w D (fun _ => false) 0)) s3 := by
    rw [← hs3]
    refine I2.laid (t' := s2.toks) (fun b o e => Heap.get?_push_of_some _ e) (Nat.le_of_eq hD) ?_
    rw [← hD]
    exact setO_new (setR_fresh X.w)
  have h3 : s3.heap = s2.heap.push { cls := .type "set", dict := none, data := .set #[] 0 (.fresh 0 0 (!X.w.params.followText "set-order")) } := by rw [← hs3]
  have sz : ∀ b ∈ fp, b < s2.heap.objs.size := fun b hb => by
    obtain ⟨o, e, _⟩ := T.obj _ _ st2 b hb
    exact Heap.lt_size e
  have f3 : ∀ b ∈ fp, FpOk X pins (upd H2 D (SetO X.w D (fun _ => false) 0)) b ∧ b < s3.heap.objs.size := fun b hb => by
    have hlt := sz b hb
    refine ⟨⟨?_, (f2 b hb).2⟩, by rw [h3, Heap.size_push]; exact Nat.lt_succ_of_lt hlt⟩
    rw [upd_ne (by rw [← hD]; exact Nat.ne_of_lt hlt)]
    exact (f2 b hb).1
  have st3 : tn 0 s3.heap := T.keep _ _ _ st2 fun b _ o e => by rw [h3]; exact Heap.get?_push_of_some _ e
  have I4 := block_start I3 ok hN f3
  have pg := hg s3 (upd H2 D (SetO X.w D (fun _ => false) 0)) s3.heap.objs.size (cellsFrom (s3.heap.objs.size + 1) scope.names (cloFrom X.env.cells scope.names [])) fp
  have pt := ht s3 (upd H2 D (SetO X.w D (fun _ => false) 0)) s3.heap.objs.size (cellsFrom (s3.heap.objs.size + 1) scope.names (cloFrom X.env.cells scope.names [])) fp
  have pe := he s3 (upd H2 D (SetO X.w D (fun _ => false) 0)) s3.heap.objs.size (cellsFrom (s3.heap.objs.size + 1) scope.names (cloFrom X.env.cells scope.names [])) fp
  show codeAny _ _ (.compStart (.SetComp elt [⟨tg, iter, ifs, 0⟩] scope pos) 0 (.ref it) (.ref D) (compEnvC scope (cellsFrom (s3.heap.objs.size + 1) scope.names (cloFrom X.env.cells scope.names [])) s3.heap.objs.size X.env)) (compPost (model X.prog X.w) X.A X.xe none (EP X pins σ Q) (.ref D) s3.heap.objs.size) { s3 with heap := pushCells (s3.heap.push { cls := .type "dict", data := .dict #[] }) scope.names }
  have nfp : ∀ b ∈ fp, (upd H2 D (SetO X.w D (fun _ => false) 0)) b = none := fun b hb => (f3 b hb).1.1
  generalize hce : compEnvC scope (cellsFrom (s3.heap.objs.size + 1) scope.names (cloFrom X.env.cells scope.names [])) s3.heap.objs.size X.env = ce at I4 pg pt pe ⊢
  have cL : ce.locals = s3.heap.objs.size := by subst hce; rfl
  generalize hH3 : upd H2 D (SetO X.w D (fun _ => false) 0) = H3 at I3 I4 pg pt pe w0 nfp f3
  generalize hs4 : ({ s3 with heap := pushCells (s3.heap.push { cls := .type "dict", data := .dict #[] }) scope.names } : Shared) = s4 at I4 ⊢
  have st4 : tn 0 s4.heap := T.keep _ _ _ st3 fun b _ o e => by rw [← hs4]; exact pushCells_keeps _ _ _ _ (Heap.get?_push_of_some _ e)
  have stat : ∀ {σ' : L2.St} {H' : Hp} {s' : Shared}, Inv (X.blk s3 H3 scope ce fp) [] σ' H' s' → (∀ b ∈ fp, H' b = none) → ∀ b ∈ fp, FpOk (X.blk s3 H3 scope ce fp) [] H' b := fun {σ' H' s'} I' hn b hb =>
    ⟨hn b hb, (I'.ok.exf b hb).1, I'.ok.exfs b hb, .inl hb, fun x c e => (I'.ok.exf b hb).2 x c e, fun p hp => absurd (show p ∈ ([] : List (Addr × Obj)) ++ [] from hp) (by simp)⟩
  have loop : codeAny (model X.prog X.w) X.A (.compLoop (.SetComp elt [⟨tg, iter, ifs, 0⟩] scope pos) 0 (.ref it) (.ref D) ce) (compPost (model X.prog X.w) X.A X.xe none (EP X pins σ Q) (.ref D) s3.heap.objs.size) s4 := by
    refine compLoopS_any (fun n s' => ∃ i H', Inv (X.blk s3 H3 scope ce fp) [] (wipe σ (own.map (·.2))) H' s' ∧ tn i s'.heap ∧ (∀ b ∈ fp, H' b = none) ∧ W i n H') ?_ m0 ⟨0, H3, I4, st4, nfp, w0⟩
    rintro n s5 ⟨i, H5, I5, st5, n5, w5⟩
    rcases turn i n H5 w5 with ⟨stop, qq⟩ | ⟨go, Nx, hNx, step⟩
    · have td := T.done (X.blk s3 H3 scope ce fp) rfl rfl rfl hc i [] s5 _ H5 (fun _ _ => False) I5 (stat I5 n5) st5 stop
      refine thnF td fun r s6 ⟨hr, I6⟩ => ?_
      subst hr
      have I7 : Inv X pins σ H5 s6 := I3.call' (ch := fp) I6.os I6.base I6.hok I6.bare fun b hb => ⟨(f3 b hb).1.2.2.2.1, (f3 b hb).1.2.1, (f3 b hb).1.2.2.2.2.1, (f3 b hb).1.2.2.2.2.2⟩
      have nC : H5 s3.heap.objs.size = none := by
        have z : H5 ce.locals = none := I6.free
        rw [cL] at z
        exact z
      obtain ⟨m, hn, _⟩ := I6.loc
      have hn : s6.heap.Ns ce.locals m := hn
      rw [cL] at hn
      exact hRR D s3.heap.objs.size s6 m H5 I7 qq hn (I3.fpOk (Nat.le_refl _) nC)
    · have ti := T.item (X.blk s3 H3 scope ce fp) rfl rfl rfl hc i [] s5 _ H5 (fun _ _ => False) I5 (stat I5 n5) st5 go
      refine thnF ti fun r s6 ⟨u, hr, h6⟩ => ?_
      subst hr
      refine thnF h6 fun _ s7 ⟨x, H7, I7, r7, y7, st7, n7⟩ => ?_
      have I7' := I7.pinned (stat I7 n7) (T.obj _ _ st7)
      refine thnF (pg.run _ s7 _ H7 x u _ I7' r7 (step x H7 y7)) fun _ s8 ⟨σ8, H8, I8, hw8, q8⟩ => ?_
      refine thnF (pt.run _ s8 σ8 H8 _ I8 q8) fun b s9 ⟨H9, I9, q9⟩ => ?_
      have fin : ∀ {s' : Shared} {H' : Hp}, Inv (X.blk s3 H3 scope ce fp) ([] ++ pinsAt fp s7.heap) σ8 H' s' → Nx H' → ∃ m, m < n ∧ ∃ i H', Inv (X.blk s3 H3 scope ce fp) [] (wipe σ (own.map (·.2))) H' s' ∧ tn i s'.heap ∧ (∀ b ∈ fp, H' b = none) ∧ W i m H' := fun {s' H'} I' nx => by
        obtain ⟨m', hm, w'⟩ := hNx H' nx
        have pin' : ∀ b ∈ fp, ∀ o, s7.heap.get? b = some o → s'.heap.get? b = some o ∧ H' b = none := fun b hb o e =>
          let z := I'.pin (b, o) (List.mem_append_right _ (List.mem_append_right _ (mem_pinsAt hb e)))
          ⟨z.1, z.2.1⟩
        have hl : (wipe σ (own.map (·.2))).length = σ8.length := by rw [← hw8, wipe_length]
        refine ⟨m', hm, i + 1, H', (I'.unpinned (pins := [])).weak hl (fun j v e => ?_), T.keep _ _ _ st7 fun b hb o e => (pin' b hb o e).1, fun b hb => ?_, w'⟩
        · rw [← hw8] at e
          exact (wipe_some e).1
        · obtain ⟨o, e, _⟩ := T.obj _ _ st7 b hb
          exact (pin' b hb o e).2
      cases b with
      | false =>
        simp only [Bool.false_eq_true, if_false] at q9 ⊢
        exact fin I9 q9
      | true =>
        simp only [if_true] at q9 ⊢
        refine thnF (pe.run _ s9 σ8 H9 _ I9 q9) fun z s10 ⟨yv, H10, I10, r10, nx⟩ => ?_
        refine thnF (mt_sadd (X := X.blk s3 H3 scope ce fp) _ s10 σ8 H10 (.ref D) [yv] (.ref D) [z] _ I10 rfl (.cons r10 .nil) nx) fun _ s11 ⟨_, H11, I11, _, nx⟩ => fin I11 nx
  exact codeAny_compStart_set loop (T.self X.A 0 _ _ _ st4 loop)
end
end L2
namespace Fy
open PySem PySem.Spec PyProof.Rows L2

/-! ### sorted({e for target in source if test}), whole numbers -/
def stS (e : M8) : List Int → Q8 → Out (List Int) := fun acc => bnd e fun y q => match y with
  | .int k => if acc.length < 60 then .ok (if k ∈ acc then acc else acc ++ [k]) q else .no
  | _ => .no
def msset (it : Q8 → Out (List D)) (g : GT) (t : Q8 → Out Bool) (e : M8) (vs : List Nat) : M8 := mcomp it g t (stS e) vs [] (fun a => mret (.lst ((srt a).map .int)))
def ARs (w : World) (m : List Addr) (ow : Addr → Prop) (H : Hp) (Da : Addr) (acc : List Int) (o : HO) : Prop := acc.Nodup ∧ o = SetO w Da (fun k => decide (k ∈ acc)) acc.length
section
variable {X : Cx} {W : WX} {v p0 p1 : Bool} {elt tg iter : Expr} {ifs : List Expr} {scope : Scope} {own : List (Str × Nat)} {pos cpos ps : Pos} {it : Q8 → Out (List D)} {g : GT} {t : Q8 → Out Bool} {e : M8} {js : List Nat}
theorem stp_set {acc : List Int} {q : Q8} {σ : L2.St} {H : Hp} {w : Wd} {Da : Addr} {o : HO} {Nx : Hp → Prop} (R : Rp X.K X.mg q σ H (w.plus Da)) (hro : ¬ w.ro Da) (hD : H Da = some o) (ar : ARs X.w w.m (w.plus Da).ow H Da acc o)
    (hm : Ok8 (stS e acc q) fun acc' q' => ∀ H4 w4 o', Fr p1 H (w.plus Da) H4 (Wd.plus w4 Da) → w4.oo = w.oo → Rp X.K X.mg q' σ (upd H4 Da o') (w4.plus Da) → ARs X.w w4.m (w4.plus Da).ow (upd H4 Da o') Da acc' o' → Nx (upd H4 Da o')) :
    Rd X.K X.mg W00 p1 (VD X.K X.mg false) e σ H fun y H4 => rSAdd X.w (.ref Da) [y] H4 fun _ H5 => Nx H5 := by
  obtain ⟨nd, eo⟩ := ar
  refine ⟨q, w.plus Da, R, ?_⟩
  unfold Ct
  unfold stS bnd Ok8 at hm
  cases ee : e q with
  | no => rw [ee] at hm; exact hm
  | exc x q' => rw [ee] at hm; exact hm.elim
  | ok y q' =>
    rw [ee] at hm
    intro x H4 w4 F4 R4 rx
    obtain ⟨ew, er⟩ := plus_of F4.oo F4.ro
    have hD4 : H4 Da = some o := F4.keep _ _ hD fun z => R.apart Da z (.inr rfl)
    cases y <;> first | exact hm.elim | skip
    rename_i k
    cases (show x = V.int k from rx)
    dsimp only at hm
    by_cases hz : acc.length < 60
    · rw [if_pos hz] at hm
      rw [ew] at R4 F4
      refine ⟨Da, k, _, acc.length, rfl, rfl, by rw [hD4, eo], by unfold scanBound; omega, ?_⟩
      refine hm H4 (w4.minus w) _ F4 rfl (R4.at (by rw [er]; exact hro)) ?_
      by_cases hk : k ∈ acc
      · refine ⟨by rw [if_pos hk]; exact nd, ?_⟩
        rw [if_pos hk]
        simp only [hk, decide_true, if_true]
        congr 1
        funext j
        by_cases hj : j = k
        · subst hj; simp [hk]
        · simp [hj]
      · refine ⟨by rw [if_neg hk]; exact List.nodup_append.mpr ⟨nd, by simp, fun a ha b hb ee => hk (by rw [← List.mem_singleton.mp hb, ← ee]; exact ha)⟩, ?_⟩
        rw [if_neg hk]
        simp only [hk, decide_false, List.length_append, List.length_singleton]
        congr 1
        funext j
        by_cases hj : j = k
        · subst hj; simp
        · simp [hj]
    · rw [if_neg hz] at hm
      exact hm.elim
theorem tnS_len {vs : List Nat} : ∀ {ds : List D} {acc acc' : List Int} {q q' : Q8}, tnL g t (stS e) vs ds acc q = .ok acc' q' → acc.length ≤ 60 → acc'.length ≤ 60
  | [], acc, acc', q, q', h, hl => by cases h; exact hl
  | d :: ds, acc, acc', q, q', h, hl => by
    unfold tnL at h
    split at h
    · cases h
    · split at h
      · split at h
        · rename_i acc1 q4 he
          split at h
          · refine tnS_len h ?_
            unfold stS bnd at he
            split at he
            · dsimp only at he
              split at he
              · split at he
                · cases he
                  split
                  · exact hl
                  · rw [List.length_append, List.length_singleton]; omega
                · cases he
              · cases he
            · cases he
            · cases he
          · cases h
        · cases h
      · split at h
        · exact tnS_len h hl
        · cases h
      · cases h
theorem px_sset (hc : X.calm = true) (hN : X.N.Nodup) (hm : X.mg "sorted" = none) (hi : PIX X W v p0 tg iter it) (ok : BlkOk X.N X.env.scope scope own)
    (hg : ∀ (s : Shared) (H : Hp) (C : Addr) (cl : List (Str × Addr)) (fp : List Addr), PGX (X.blk s H scope (compEnvC scope cl C X.env) fp) js tg g)
    (ht : ∀ (s : Shared) (H : Hp) (C : Addr) (cl : List (Str × Addr)) (fp : List Addr), PTX (X.blk s H scope (compEnvC scope cl C X.env) fp) W00 p1 ifs t)
    (he : ∀ (s : Shared) (H : Hp) (C : Addr) (cl : List (Str × Addr)) (fp : List Addr), PX (X.blk s H scope (compEnvC scope cl C X.env) fp) W00 false p1 elt e)
    (hgl : Gl X "sorted" := by rfl) (hst : starEach [Expr.SetComp elt [⟨tg, iter, ifs, 0⟩] scope pos] X.env = (false, eval (Expr.SetComp elt [⟨tg, iter, ifs, 0⟩] scope pos) X.env) :: starEach [] X.env := by rfl) (hpl : (backTo cpos (starEach [] X.env)).any (·.1) = false := by rfl)
    (hs : ∀ x, foldedSetIterable iter X.env x = pure x := by intro _; rfl) (hj : ∀ i ∈ js, i ∈ own.map (·.2) := by decide) (hv : v = true → p1 = true := by decide) :
    PX X W false (p0 && p1) (.Call (.Name "sorted" ps) [.SetComp elt [⟨tg, iter, ifs, 0⟩] scope pos] [] cpos) (msset it g t e (own.map (·.2))) :=
  peW (pe_callB (cr_sortedSet hc) hgl hm (by decide +kernel) (pa_cons (fy_setcomp hc hN hi ok hg ht he hs) pa_nil hst) (by decide) (by decide) hst hpl) fun σ H Q h => by
    have key : tScI X.w (RdI X.K X.mg W v p0 it) (RdG X.K X.mg js g) (Rd X.K X.mg W00 p1 relB t) (Rd X.K X.mg W00 p1 (VD X.K X.mg false) e) (own.map (·.2)) σ H fun x H1 => rSortedSet X.w [x] H1 Q :=
      comp_of (Q := fun x H1 => rSortedSet X.w [x] H1 Q) (Q0 := Q) (o0 := fun D => SetO X.w D (fun _ => false) 0) (stp := fun σ2 H3 D Nx => Rd X.K X.mg W00 p1 (VD X.K X.mg false) e σ2 H3 fun y H4 => rSAdd X.w (.ref D) [y] H4 fun _ H5 => Nx H5) (fun m ow H D acc o => ARs X.w m ow H D acc o ∧ acc.length ≤ 60)
        (fun x h => h) ⟨⟨List.nodup_nil, by simp⟩, by simp⟩ (fun R hro hD ar hm => stp_set (X := X) R hro hD ar.1 (by
          unfold Ok8 at hm ⊢
          cases hes : stS e _ _ with
          | no => rw [hes] at hm; exact hm
          | exc x q' => rw [hes] at hm; exact hm
          | ok acc' q' =>
            rw [hes] at hm
            intro H4 w4 o' F4 e4 R4 a4
            refine hm H4 w4 o' F4 e4 R4 ⟨a4, ?_⟩
            unfold stS bnd at hes
            split at hes
            · dsimp only at hes
              split at hes
              · split at hes
                · cases hes
                  split
                  · exact ar.2
                  · rw [List.length_append, List.length_singleton]; omega
                · cases hes
              · cases hes
            · cases hes
            · cases hes)) hj hv
        (fun {acc q H w Da o} R ⟨⟨nd, eo⟩, hl⟩ hD hn c => ⟨Da, fun k => decide (k ∈ acc), acc.length, rfl, hD.trans (congrArg some eo), by omega, fun ns p hs hk hl' hp => by
          have pm : ns.Perm acc := by
            refine (List.perm_ext_iff_of_nodup (hs.imp (fun h => by omega)) nd).mpr fun k => ?_
            rw [hk]; simp
          have hle : ns.Pairwise (· ≤ ·) := hs.imp fun h => by omega
          have c' : Ct X.K X.mg W p1 (VD X.K X.mg false) (mret (.lst ((srt acc).map .int))) q w σ H Q := c
          refine c'.fin R _ _ (upd_keep hp) ?_
          rw [← srt_of pm hle]
          exact new_lst R hp (dreps_ints ns)⟩) h
    exact key
end
end Fy

set_option maxHeartbeats 1000000
namespace Fy
open PySem PySem.Spec PyProof.Rows L2
/-- a global that stays -/
def GC (K : PySem.W.Frag) (mg : Str → Option Value) (x : Str) (d : D) : Prop := ∃ u v, mg x = some u ∧ RelV v u ∧ ∀ m ow H, DRep K mg m ow H d v
theorem px_g {X : Cx} {W : WX} {x : Str} {d : D} {pos : Pos} (h : GC X.K X.mg x d) (hg : Gl X x := by rfl) (hdb : (x == ("__debug__" : Str)) = false := by decide) : PX X W false true (.Name x pos) (mret d) := by
  obtain ⟨u, v, hm, r, hd⟩ := h
  exact px_const (pe_glob hg hm r hdb) fun w H => hd _ _ _
theorem Fd.mono {P : Program} {w : World} {K : PySem.W.Frag} {mg : Str → Option Value} {base : Heap} {j k : Nat} {x : Str} {n : Nat} {F : FF} (h : Fd P w K mg base j x n F) (hk : j ≤ k) : Fd P w K mg base k x n F := by
  obtain ⟨f, fd, ps, fo, r⟩ := h.ex
  exact ⟨f, fd, ps, fo.mono hk, r⟩
theorem room_u {k : Nat} {A : Around} (r : Room k A) : A.units + 64 < cLine := by have := r.un; omega
/-- a def of the text -/
def FnIs (K : PySem.W.Frag) (mg : Str → Option Value) (x : Str) (st : Stmt) : Prop := ∃ f fd, L2.Fun K x x st f fd ∧ mg x = some (.ref f)
theorem fd_of {P : Program} {w : World} {K : PySem.W.Frag} {mg : Str → Option Value} {base : Heap} {x : Str} {st : Stmt} {N ps : List Str} {k n : Nat} {body : S8} (h : FnIs K mg x st) (S : FnScope N ps (defScope st)) (hn : n = ps.length)
    (hb : ∀ (kV doc pm : Value) (an : Option Addr) (cdv ct : Value) (us : List Value), us.length = ps.length → bindArgs (PySem.W.fnOf x x (defArgs st) (defBody st) (defScope st) .none kV doc pm an cdv ct) ⟨us, []⟩ = pure (ps.zip us))
    (hbody : ∀ (f : Addr) (cdv : Value) (A : Around) (outer : List Env) (s : Shared) (H : Hp) (E : XK), Room k (A.deeper (envOfC x (defScope st) s.heap.objs.size f cdv)) →
      SXs (cxOf (L2.CX P w) P w K mg base N x (defScope st) f cdv A outer s H E) (fun c d _ H => E c d H) (defBody st) body) : Fd P w K mg base (k + 1) x n (runF N.length body) := by
  obtain ⟨f, fd, F, hm⟩ := h
  exact ⟨f, fd, ps, fn_F F S hn (fun cdv A outer s H E hr => hbody f cdv A outer s H E hr), hm, F.kp, F.binds hb⟩
/-! ### list(x) as an owned list -/
def tmlist (m : M8) : Q8 → Out T := bnd m fun d q => match d with
  | .tup xs => .ok (.fl xs) q
  | .lst xs => .ok (.fl xs) q
  | _ => .no
theorem pxt_tolist {X : Cx} {W : WX} {v p : Bool} {e : Expr} {m : M8} {pos ps : Pos} (hm : X.mg "list" = none) (ha : PX X W v p e m) (hg : Gl X "list" := by rfl) (he : starEach [e] X.env = (false, eval e X.env) :: starEach [] X.env := by rfl) (hpl : (backTo pos (starEach [] X.env)).any (·.1) = false := by rfl) :
    PXT X W p (.Call (.Name "list" ps) [e] [] pos) (tmlist m) :=
  peW (pe_callTy call_list_of hg hm (by decide +kernel) (xa_view1 ha he) (by decide) (by decide) he hpl) fun σ H Q ⟨q, w, R, c⟩ => ⟨q, w, R, (CtT.rt c).bnd fun d q1 vs H1 w1 e1 F1 R1 r1 c1 => by
    obtain ⟨x, rfl, r1⟩ := r1
    cases d <;> first | exact c1.elim | skip
    · obtain ⟨a, us, rfl, t, r⟩ := vtup r1.view
      refine ⟨a, us, rfl, .inr t.sq, fun l hl => ?_⟩
      obtain ⟨F, r', R'⟩ := new_fl (p := true) R1 hl r
      exact c1 _ _ _ _ F r' R'
    · obtain ⟨a, us, rfl, t, r⟩ := vlst r1.view
      refine ⟨a, us, rfl, .inl (.inl (.inl t)), fun l hl => ?_⟩
      obtain ⟨F, r', R'⟩ := new_fl (p := true) R1 hl r
      exact c1 _ _ _ _ F r' R'⟩
section
variable {X : Cx} {W : WX} {v p0 p1 : Bool} {kx vx tg iter : Expr} {ifs : List Expr} {scope : Scope} {own : List (Str × Nat)} {pos : Pos} {it : Q8 → Out (List D)} {g : GT} {t : Q8 → Out Bool} {mk mv : M8} {js : List Nat}
/-- name = {k: v for ..} on one line -/
theorem ps_setDc {i : Nat} {y : Str} {py spos : Pos} {wi : TI} {g : TG} {tt : TT} {tk tv : TE} (hc : X.calm = true) (hN : X.N.Nodup) (hy : X.N[i]? = some y) (hyl : X.env.scope.names.lookup y = some .local)
    (hsw : swapsWith (.DictComp kx vx [⟨tg, iter, ifs, 0⟩] scope pos) (some (.Name y py)) spos.line X.env = pure true) (hi : PI X tg iter wi) (ok : BlkOk X.N X.env.scope scope own)
    (hg : ∀ (s : Shared) (H : Hp) (C : Addr) (cl : List (Str × Addr)) (fp : List Addr), PG (X.blk s H scope (compEnvC scope cl C X.env) fp) tg g) (ht : ∀ (s : Shared) (H : Hp) (C : Addr) (cl : List (Str × Addr)) (fp : List Addr), PTs (X.blk s H scope (compEnvC scope cl C X.env) fp) ifs tt)
    (hk : ∀ (s : Shared) (H : Hp) (C : Addr) (cl : List (Str × Addr)) (fp : List Addr), PE (X.blk s H scope (compEnvC scope cl C X.env) fp) kx tk)
    (he : ∀ (s : Shared) (H : Hp) (C : Addr) (cl : List (Str × Addr)) (fp : List Addr), PE (X.blk s H scope (compEnvC scope cl C X.env) fp) vx tv) (hs : ∀ x, foldedSetIterable iter X.env x = pure x) :
    PS X (.Assign [.Name y py] (.DictComp kx vx [⟨tg, iter, ifs, 0⟩] scope pos) spos) (tAsg (tDc wi g tt tk tv (own.map (·.2))) (gName i)) := by
  refine ⟨fun pins s σ H D I h => ?_⟩
  rw [exec_Assign_Name_used _ _ _ _ hsw]
  refine wpAny_bind (wpAny_standAt (wpAny_bind ?_))
  show wpAny _ X.A (do let _ ← comprehension (.DictComp kx vx [⟨tg, iter, ifs, 0⟩] scope pos) scope X.env (firstIterPos [⟨tg, iter, ifs, 0⟩] pos) newDict false (eval iter X.env) (some (assign (.Name y py) X.env))) _ _ s
  have h : tDc wi g tt tk tv (own.map (·.2)) σ H (fun x H1 => gName i x σ H1 D.nx) := h
  refine wpAny_bind (thn (dc_core (Qf := fun _ s' => SP X pins D .next s') hc hN I hi ok hg ht hk he hs h fun L C s' m H' I' q hn f => ?_) fun _ s' hq => wpAny_pure (wpAny_pure hq))
  show wpAny _ _ (assign (.Name y py) X.env (.ref L)) _ _ _
  refine wpAny_assign_Name (store_ok2 (v := V.ref L) I' hN hy (.inl hyl) rfl (fun s2 I2 ⟨a, sb, ha⟩ => ?_) (.inr hyl))
  obtain ⟨f0, f1, f2, f3, f4, f5⟩ := f
  have haC : C ≠ a := by
    rcases ha with z | z
    · rw [z]; exact f1
    · exact fun e => f4 y a z e.symm
  refine ⟨m, hn.sameBut sb haC, fun h3 sb3 => ?_⟩
  exact ⟨_, H', I2.turned (t' := s2.toks) (fun b o hb e => (sb3.2 b hb).trans e) f0 f1 f3 f4 f5, q⟩
theorem ctS_setT {i : Nat} {t : T} {q0 q : Q8} {w0 w' : Wd} {σ : L2.St} {H0 H' : Hp} {x : V} {l : List Addr} {Dn : Ends} {m : Q8 → Out T} (hro : ∀ a, w0.ro a → w0.oo a) (r : RetOk X.K X.mg H0 w0 t x H' w' l) (R : Rp X.K X.mg q σ H' (w'.plusl l))
    (ef : (fun q : Q8 => if i < q.r.length then (Out.ok Fl8.nx { q with r := q.r.set i (some t) }) else .no) q = ssetT i m q0) (h : CtS X.K X.mg W (ssetT i m) q0 w0 σ H0 Dn) : Dn.nx (σ.set i (some x)) H' := by
  unfold CtS at h
  rw [← ef] at h
  by_cases hi : i < q.r.length
  · simp only [hi, if_true] at h
    obtain ⟨w2, R2, F2⟩ := rp_setT hro hi r R
    exact h _ H' w2 F2 R2
  · simp only [hi, if_false] at h
theorem sx_setDcT {i : Nat} {y : Str} {py spos : Pos} (hc : X.calm = true) (hN : X.N.Nodup) (hi : PIX X W v p0 tg iter it) (ok : BlkOk X.N X.env.scope scope own)
    (hg : ∀ (s : Shared) (H : Hp) (C : Addr) (cl : List (Str × Addr)) (fp : List Addr), PGX (X.blk s H scope (compEnvC scope cl C X.env) fp) js tg g)
    (ht : ∀ (s : Shared) (H : Hp) (C : Addr) (cl : List (Str × Addr)) (fp : List Addr), PTX (X.blk s H scope (compEnvC scope cl C X.env) fp) W00 p1 ifs t)
    (hk : ∀ (s : Shared) (H : Hp) (C : Addr) (cl : List (Str × Addr)) (fp : List Addr), PX (X.blk s H scope (compEnvC scope cl C X.env) fp) W00 false p1 kx mk)
    (he : ∀ (s : Shared) (H : Hp) (C : Addr) (cl : List (Str × Addr)) (fp : List Addr), PX (X.blk s H scope (compEnvC scope cl C X.env) fp) W00 false p1 vx mv)
    (hy : X.N[i]? = some y := by rfl) (hyl : X.env.scope.names.lookup y = some .local := by rfl) (hsw : swapsWith (.DictComp kx vx [⟨tg, iter, ifs, 0⟩] scope pos) (some (.Name y py)) spos.line X.env = pure true := by rfl)
    (hs : ∀ x, foldedSetIterable iter X.env x = pure x := by intro _; rfl) (hj : ∀ i ∈ js, i ∈ own.map (·.2) := by decide) (hv : v = true → p1 = true := by decide) :
    SX X W (.Assign [.Name y py] (.DictComp kx vx [⟨tg, iter, ifs, 0⟩] scope pos) spos) (ssetT i (tmdc it g t mk mv (own.map (·.2)))) :=
  psW (t := tAsg (tDc (RdI X.K X.mg W v p0 it) (RdG X.K X.mg js g) (Rd X.K X.mg W00 p1 relB t) (Rd X.K X.mg W00 p1 (VD X.K X.mg false) mk) (Rd X.K X.mg W00 p1 (VD X.K X.mg false) mv) (own.map (·.2))) (gName i)) (ps_setDc hc hN hy hyl hsw hi ok hg ht hk he hs) fun Dn σ H ⟨q, w, R, h⟩ => by
    have h' : RdT X.K X.mg W (p0 && p1) (tmdc it g t mk mv (own.map (·.2))) σ H fun x H1 => gName i x σ H1 Dn.nx := ⟨q, w, R, CtS.bndT h fun t q1 x H1 w1 l e1 r R1 ef => ctS_setT R.ro r R1 ef h⟩
    exact comp_ofT (Q := fun x H1 => gName i x σ H1 Dn.nx) (Q0 := fun x H1 => gName i x σ H1 Dn.nx) (o0 := fun _ => .dK []) (stp := fun σ2 H3 D Nx => Rd X.K X.mg W00 p1 (VD X.K X.mg false) mk σ2 H3 fun y H4 => Rd X.K X.mg W00 p1 (VD X.K X.mg false) mv σ2 H4 fun z H5 => ∃ kvs k, y = kV k ∧ H5 D = some (.dK kvs) ∧ kvs.length < sizeLine ∧ Nx (upd H5 D (.dK (putK kvs k z)))) (ARd X.K X.mg)
      (fun x ⟨vs, e, r⟩ => ⟨vs, e, r.mono x⟩) ⟨[], ⟨[], rfl, rfl, rfl⟩, (show DReps _ _ _ _ _ [] [] from rfl)⟩ (fun R hro hD ar hm => stp_dc (X := X) R hro hD ar hm) hj hv (fun {acc q H1 w1 H w Da o} F R ⟨vs, hdo, r⟩ hD hn hn1 c =>
        fin_T F R hn hn1 (by rw [hD]; simp) (show TRep X.K X.mg w.m (w.plus Da).ow H (.fd false acc.1 acc.2) (.ref Da) [Da] from ⟨Da, vs, o, rfl, hD, hdo, r, rfl⟩) c) h'
theorem sx_setLcT {elt : Expr} {e : M8} {i : Nat} {y : Str} {py spos : Pos} (hc : X.calm = true) (hN : X.N.Nodup) (hi : PIX X W v p0 tg iter it) (ok : BlkOk X.N X.env.scope scope own)
    (hg : ∀ (s : Shared) (H : Hp) (C : Addr) (cl : List (Str × Addr)) (fp : List Addr), PGX (X.blk s H scope (compEnvC scope cl C X.env) fp) js tg g)
    (ht : ∀ (s : Shared) (H : Hp) (C : Addr) (cl : List (Str × Addr)) (fp : List Addr), PTX (X.blk s H scope (compEnvC scope cl C X.env) fp) W00 p1 ifs t)
    (he : ∀ (s : Shared) (H : Hp) (C : Addr) (cl : List (Str × Addr)) (fp : List Addr), PX (X.blk s H scope (compEnvC scope cl C X.env) fp) W00 false p1 elt e)
    (hy : X.N[i]? = some y := by rfl) (hyl : X.env.scope.names.lookup y = some .local := by rfl) (hsw : swapsWith (.ListComp elt [⟨tg, iter, ifs, 0⟩] scope pos) (some (.Name y py)) spos.line X.env = pure true := by rfl)
    (hs : ∀ x, foldedSetIterable iter X.env x = pure x := by intro _; rfl) (hj : ∀ i ∈ js, i ∈ own.map (·.2) := by decide) (hv : v = true → p1 = true := by decide) :
    SX X W (.Assign [.Name y py] (.ListComp elt [⟨tg, iter, ifs, 0⟩] scope pos) spos) (ssetT i (tmlc it g t e (own.map (·.2)))) :=
  psW (t := tAsg (tLc (RdI X.K X.mg W v p0 it) (RdG X.K X.mg js g) (Rd X.K X.mg W00 p1 relB t) (Rd X.K X.mg W00 p1 (VD X.K X.mg false) e) (own.map (·.2))) (gName i)) (ps_setLc hc hN hy hyl hsw hi ok hg ht he hs) fun Dn σ H ⟨q, w, R, h⟩ => by
    have h' : RdT X.K X.mg W (p0 && p1) (tmlc it g t e (own.map (·.2))) σ H fun x H1 => gName i x σ H1 Dn.nx := ⟨q, w, R, CtS.bndT h fun t q1 x H1 w1 l e1 r R1 ef => ctS_setT R.ro r R1 ef h⟩
    exact comp_ofT (Q := fun x H1 => gName i x σ H1 Dn.nx) (Q0 := fun x H1 => gName i x σ H1 Dn.nx) (o0 := fun _ => .lst []) (stp := fun σ2 H3 D Nx => Rd X.K X.mg W00 p1 (VD X.K X.mg false) e σ2 H3 fun y H4 => ∃ acc, H4 D = some (.lst acc) ∧ acc.length < sizeLine ∧ Nx (upd H4 D (.lst (acc ++ [y])))) (ARl X.K X.mg)
      (fun x ⟨vs, e, r⟩ => ⟨vs, e, r.mono x⟩) ⟨[], rfl, (show DReps _ _ _ _ _ [] [] from rfl)⟩ (fun R hro hD ar hm => stp_lc (X := X) R hro hD ar hm) hj hv (fun {acc q H1 w1 H w Da o} F R ⟨vs, eo, r⟩ hD hn hn1 c =>
        fin_T F R hn hn1 (by rw [hD]; simp) (show TRep X.K X.mg w.m (w.plus Da).ow H (.fl acc) (.ref Da) [Da] from ⟨Da, vs, rfl, by rw [hD, eo], r, rfl⟩) c) h'
end
end Fy

set_option maxHeartbeats 1000000
namespace Fy
open PySem PySem.Spec PyProof.Rows L2
/-- what a law promises of its script -/
def spLaw (n : Nat) (K : PySem.W.Frag) : Sp := fun vs H Q _ => ∃ (a : Addr) (ns : List Int), vs = [.ref a] ∧ ns.length ≤ n ∧ Only H ∧ SqL K H a (ns.map V.int) ∧ ∀ H', Q (.bl true) H'
theorem law_imp {K : PySem.W.Frag} {mg : Str → Option Value} {n : Nat} {F : FF} (h : ∀ ns : List Int, ns.length ≤ n → ∃ S, F [.scr (ns.map .int)] [] true = .ok (.d (.bl true)) S) :
    ∀ vs H Q E, spLaw n K vs H Q E → SpF K mg 1 F vs H Q E := by
  rintro vs H Q E ⟨a, ns, rfl, hl, hO, hs, q⟩
  obtain ⟨S, e⟩ := h ns hl
  refine ⟨rfl, [], true, ⟨[], [], fun _ => False, fun _ => False⟩, [.scr (ns.map .int)], ⟨⟨[], [], ⟨rfl, rfl⟩, ⟨rfl, rfl⟩, List.nodup_nil, .inl ⟨rfl, rfl⟩⟩, fun _ h => h, fun _ h => absurd h (by simp), fun a h => (h.elim (fun z => absurd z (by simp)) id).elim⟩, ⟨.ref a, [], rfl, ⟨a, ns.map V.int, rfl, ?_, dreps_ints ns⟩, rfl⟩, ?_⟩
  · rcases hs with (hs | hs) | hs
    · rcases hO a with z | ⟨_, _, z⟩
      · rw [z] at hs; cases hs
      · rw [z] at hs; cases hs
    · exact .inl ⟨hs, fun z => z.elim (fun z => absurd z (by simp)) id⟩
    · exact .inr hs
  · rw [e]
    intro x H' w' l r R
    cases (show x = V.bl true from r.rep.1)
    exact q H'
/-- the law's def at the end -/
theorem fd_law {P : Program} {w : World} {K : PySem.W.Frag} {mg : Str → Option Value} {base : Heap} {k n : Nat} {F : FF} {fa : Addr} (h : Fd P w K mg base k "law" 1 F) (hm : mg "law" = some (.ref fa)) (ht : ∀ ns : List Int, ns.length ≤ n → ∃ S, F [.scr (ns.map .int)] [] true = .ok (.d (.bl true)) S) :
    ∃ fd ps, FnOk P w K mg base (L2.CX P w) k fa fd ps (spLaw n K) := by
  obtain ⟨f, fd, ps, fo, e, _, _⟩ := h.ex
  rw [hm] at e
  cases e
  exact ⟨fd, ps, fo.imp (law_imp ht)⟩
section
variable {w : World} {K : PySem.W.Frag} {h : Heap} {mg : Str → Option Value}
theorem fn_is {x : Str} {st : Stmt} {f : Addr} {oc : Value} {od an : Option Addr} {osl : Array (Option Value)} {kV doc pm cdv ct : Value} (X : K.In h) (G : h.Ns mainGlobals mg) (a : PySem.W.nsIn K mainGlobals x = some (some (.ref f)))
    (l : K.lookup f = some ⟨oc, od, .func (PySem.W.fnOf x x (defArgs st) (defBody st) (defScope st) .none kV doc pm an cdv ct), osl⟩) (c : PySem.W.codeIn K cdv x = true) (k : PySem.W.keepIn K (.ref f) = true) : FnIs K mg x st :=
  ⟨f, _, fun_mk l c k, PySem.W.mg_of X G a⟩
theorem gc_int {x : Str} {i : Int} {t : Tok} (X : K.In h) (G : h.Ns mainGlobals mg) (a : PySem.W.nsIn K mainGlobals x = some (some (.int i t))) : GC K mg x (.int i) := ⟨_, .int i, PySem.W.mg_of X G a, ⟨t, rfl⟩, fun _ _ _ => rfl⟩
theorem gc_str {x z : Str} {t : Tok} (X : K.In h) (G : h.Ns mainGlobals mg) (a : PySem.W.nsIn K mainGlobals x = some (some (.str z t))) : GC K mg x (.str z) := ⟨_, .str z, PySem.W.mg_of X G a, ⟨t, rfl⟩, fun _ _ _ => rfl⟩
/-- flat data and the value that it is -/
def FV : D → Value → Prop
  | .int i, u => ∃ t, u = .int i t
  | .str z, u => ∃ t, u = .str z t
  | _, _ => False
def FVs : List D → List Value → Prop
  | [], us => us = []
  | d :: ds, us => ∃ u r, us = u :: r ∧ FV d u ∧ FVs ds r
theorem fv_of {d : D} {u : Value} (h : FV d u) : ∃ v, RelV v u ∧ ∀ m ow H, DRep K mg m ow H d v := by
  cases d <;> first | exact h.elim | skip
  · obtain ⟨t, rfl⟩ := h; exact ⟨.int _, ⟨t, rfl⟩, fun _ _ _ => rfl⟩
  · obtain ⟨t, rfl⟩ := h; exact ⟨.str _, ⟨t, rfl⟩, fun _ _ _ => rfl⟩
theorem fvs_of : ∀ {ds : List D} {us : List Value}, FVs ds us → ∃ vs, Vals vs us ∧ ∀ m ow H, DReps K mg m ow H ds vs
  | [], us, h => by
    cases (show us = [] from h)
    exact ⟨[], .nil, fun _ _ _ => rfl⟩
  | d :: ds, _, ⟨u, r, e, h1, h2⟩ => by
    subst e
    obtain ⟨v, rv, hv⟩ := fv_of (K := K) (mg := mg) h1
    obtain ⟨vs, rs, hs⟩ := fvs_of h2
    exact ⟨v :: vs, .cons rv rs, fun m ow H => ⟨v, vs, rfl, hv m ow H, hs m ow H⟩⟩
/-- flat data, or a tuple of it, as the written part has it -/
def CV (K : PySem.W.Frag) : D → Value → Prop
  | .tup xs, u => ∃ p od its n sl, u = .ref p ∧ K.lookup p = some ⟨.type "tuple", od, .seq its n, sl⟩ ∧ its.size ≤ sizeLine ∧ FVs xs its.toList
  | d, u => FV d u
theorem cv_of {d : D} {u : Value} (h : CV K d u) : ∃ v, RelV v u ∧ ∀ m ow H, DRep K mg m ow H d v := by
  cases d with
  | tup xs =>
    obtain ⟨p, od, its, n, sl, rfl, hl, hz, hf⟩ := h
    obtain ⟨vs, rv, hd⟩ := fvs_of (K := K) (mg := mg) hf
    exact ⟨.ref p, rfl, fun m ow H => ⟨p, vs, rfl, .inr ⟨_, its, n, hl, rfl, rfl, hz, rv⟩, hd m ow H⟩⟩
  | int i => exact fv_of (d := .int i) h
  | str i => exact fv_of (d := .str i) h
  | _ => exact h.elim
theorem cv_tup {p : Addr} {od : Option Addr} {its : Array Value} {n : Nat} {sl : Array (Option Value)} {xs : List D} (l : K.lookup p = some ⟨.type "tuple", od, .seq its n, sl⟩) (z : its.size ≤ sizeLine) (f : FVs xs its.toList) : CV K (.tup xs) (.ref p) := ⟨p, od, its, n, sl, rfl, l, z, f⟩
theorem small_of {its : Array Value} {n : Nat} (h : its.size = n) (hn : n ≤ 1000) : its.size ≤ sizeLine := by rw [h, sizeLine_eq]; omega
theorem gc_cv {x : Str} {d : D} {u : Value} (X : K.In h) (G : h.Ns mainGlobals mg) (a : PySem.W.nsIn K mainGlobals x = some (some u)) (hc : CV K d u) : GC K mg x d := by
  obtain ⟨v, r, hd⟩ := cv_of (K := K) (mg := mg) hc
  exact ⟨u, v, PySem.W.mg_of X G a, r, hd⟩
theorem gc_gl {x : Str} {p : Addr} (X : K.In h) (G : h.Ns mainGlobals mg) (a : PySem.W.nsIn K mainGlobals x = some (some (.ref p))) : GC K mg x (.gl x) :=
  ⟨_, .ref p, PySem.W.mg_of X G a, rfl, fun _ _ _ => ⟨p, PySem.W.mg_of X G a, rfl⟩⟩
theorem xc_of {x : Str} {C : Addr} (X : K.In h) (G : h.Ns mainGlobals mg) (a : PySem.W.nsIn K mainGlobals x = some (some (.ref C))) (q : PySem.W.excIn K C [.type "ValueError", .type "Exception", .type "BaseException", .type "object"] "ValueError.__new__" = true)
    (k : PySem.W.keepIn K (.ref C) = true) (s : PySem.W.subIn K (.ref C) (.type "BaseException") = some true) (t : PySem.W.typeIn K (.ref C) = some (.type "type")) : XcF K mg x :=
  ⟨C, _, _, _, _, PySem.F.excBase_ValueError, q, PySem.W.mg_of X G a, k, s, t⟩
/-- a table of the top, entry by entry -/
def EntOk (K : PySem.W.Frag) (P : Params) : List (Str × D) → List DictEntry → Prop
  | [], es => es = []
  | (k, d) :: l, es => ∃ e r, es = e :: r ∧ (∃ t, e.key = .str k t) ∧ e.hash = PyData.keyHash P k ∧ CV K d e.val ∧ EntOk K P l r
theorem ent_lit {P : Params} : ∀ {l : List (Str × D)} {es : List DictEntry}, EntOk K P l es → PySem.W.KeysLit P es
  | [], es, h => by cases (show es = [] from h); exact trivial
  | (k, d) :: l, _, ⟨e, r, rfl, ⟨t, hk⟩, hh, _, hr⟩ => ⟨⟨k, t, hk, hh⟩, ent_lit hr⟩
theorem isStr_str {x y : Str} {t : Tok} : (Value.str x t).isStr y = (x == y) := rfl
theorem ent_find {P : Params} {z : Str} : ∀ {l : List (Str × D)} {es : List DictEntry}, EntOk K P l es →
    (l.lookup z = none → es.find? (·.key.isStr z) = none ∧ es.any (·.refKey) = false) ∧ (∀ d, l.lookup z = some d → ∃ e, es.find? (·.key.isStr z) = some e ∧ CV K d e.val)
  | [], es, h => by
    cases (show es = [] from h)
    exact ⟨fun _ => ⟨rfl, rfl⟩, fun d e => by cases e⟩
  | (k, d) :: l, _, ⟨e, r, rfl, ⟨t, hk⟩, hh, hv, hr⟩ => by
    obtain ⟨i1, i2⟩ := ent_find (z := z) hr
    have rk : e.refKey = false := by unfold DictEntry.refKey; rw [hk]
    by_cases hz : z = k
    · subst hz
      have q : e.key.isStr z = true := by rw [hk]; exact beq_self_eq_true z
      refine ⟨fun h => ?_, fun d' h => ?_⟩
      · simp [List.lookup] at h
      · simp [List.lookup] at h
        subst h
        exact ⟨e, List.find?_cons_of_pos (p := fun x : DictEntry => x.key.isStr z) q, hv⟩
    · have q : ¬ e.key.isStr z = true := by rw [hk]; intro h; exact hz (eq_of_beq (show (k == z) = true from h)).symm
      have hb : (z == k) = false := by simpa using hz
      have hl : ((k, d) :: l).lookup z = l.lookup z := by rw [List.lookup_cons, hb]
      rw [hl]
      refine ⟨fun h => ?_, fun d' h => ?_⟩
      · obtain ⟨a, b⟩ := i1 h
        exact ⟨(List.find?_cons_of_neg (p := fun x : DictEntry => x.key.isStr z) q).trans a, by rw [List.any_cons, rk, b]; rfl⟩
      · obtain ⟨e', a, b⟩ := i2 d' h
        exact ⟨e', (List.find?_cons_of_neg (p := fun x : DictEntry => x.key.isStr z) q).trans a, b⟩
theorem kt_of {x : Str} {l : List (Str × D)} {p : Addr} {es : Array DictEntry} {n : Nat} (X : K.In h) (G : h.Ns mainGlobals mg) (a : PySem.W.nsIn K mainGlobals x = some (some (.ref p))) (hl : K.lookup p = some ⟨.type "dict", none, .dict es n, #[]⟩) (hs : (p == sysModules) = false)
    (he : EntOk K w.params l es.toList) : KT8 K w mg x l := by
  refine ⟨p, es, n, PySem.W.mg_of X G a, ⟨hl, ent_lit he, hs⟩, fun z hz => ?_, fun z y hz => ?_⟩
  · obtain ⟨h1, h2⟩ := (ent_find he).1 hz
    unfold PySem.W.nsIn
    rw [hl]
    simp only [h1, h2]
    rfl
  · obtain ⟨e, h1, h2⟩ := (ent_find he).2 y hz
    obtain ⟨v, r, hd⟩ := cv_of (K := K) (mg := mg) h2
    refine ⟨e.val, v, ?_, r, hd⟩
    unfold PySem.W.nsIn
    rw [hl]
    simp only [h1]
end
end Fy

set_option maxHeartbeats 200000
namespace Fy
open PySem PySem.Spec L2
/-! ### the functions, applied: for simp -/
section
variable {α β A B : Type} {q : Q8} {r : List (Option T)} {s : List I8} {w : Bool} {m ma mb mc : M8} {f : α → Q8 → Out β}
@[simp] theorem x_bnd {m : Q8 → Out α} : bnd m f q = (match m q with | .ok a q' => f a q' | .exc e q' => .exc e q' | .no => .no) := by
  unfold bnd
  cases m q <;> rfl
@[simp] theorem x_mret {a : α} : mret a q = .ok a q := rfl
@[simp] theorem x_some {a : α} : mop (some a) q = .ok a q := rfl
@[simp] theorem x_none : mop (none : Option α) q = .no := rfl
@[simp] theorem x_mvar {i : Nat} : mvar i q = (match q.r[i]? with | some (some (.d x)) => .ok x q | _ => .no) := by
  unfold mvar
  cases q.r[i]? with
  | none => rfl
  | some o =>
    cases o with
    | none => rfl
    | some t => cases t <;> rfl
@[simp] theorem x_mvw {i : Nat} : mvw i q = (match q.r[i]? with | some (some t) => mop (seen q.s t) q | _ => .no) := by
  unfold mvw
  cases q.r[i]? with
  | none => rfl
  | some o => cases o <;> rfl
@[simp] theorem x_mbin {g : G2} : mbin g ma mb q = (match ma q with | .ok a q1 => (match mb q1 with | .ok b q2 => mop (g q2.s a b) q2 | .exc e q' => .exc e q' | .no => .no) | .exc e q' => .exc e q' | .no => .no) := by
  unfold mbin bnd
  cases ma q with
  | ok a q1 => dsimp only; cases mb q1 <;> rfl
  | _ => rfl
@[simp] theorem x_mtb : mtb m q = (match m q with | .ok (.bl b) q' => .ok b q' | .exc e q' => .exc e q' | _ => .no) := by
  unfold mtb bnd
  cases m q with
  | ok a q' => cases a <;> rfl
  | _ => rfl
@[simp] theorem x_tand {a b : Q8 → Out Bool} : tand a b q = (match a q with | .ok true q' => b q' | .ok false q' => .ok false q' | .exc e q' => .exc e q' | .no => .no) := by
  unfold tand bnd
  cases a q with
  | ok c q' => cases c <;> rfl
  | _ => rfl
@[simp] theorem x_tor {a b : Q8 → Out Bool} : tor a b q = (match a q with | .ok true q' => .ok true q' | .ok false q' => b q' | .exc e q' => .exc e q' | .no => .no) := by
  unfold tor bnd
  cases a q with
  | ok c q' => cases c <;> rfl
  | _ => rfl
@[simp] theorem x_tnot {a : Q8 → Out Bool} : tnot a q = (match a q with | .ok c q' => .ok (!c) q' | .exc e q' => .exc e q' | .no => .no) := by
  unfold tnot bnd mret
  cases a q <;> rfl
@[simp] theorem x_vand : vand ma mb q = (match ma q with | .ok (.bl true) q' => mb q' | .ok (.bl false) q' => .ok (.bl false) q' | .exc e q' => .exc e q' | _ => .no) := by
  unfold vand mtb bnd
  cases ma q with
  | ok c q' =>
    cases c <;> try rfl
    rename_i b; cases b <;> rfl
  | _ => rfl
@[simp] theorem x_vor : vor ma mb q = (match ma q with | .ok (.bl true) q' => .ok (.bl true) q' | .ok (.bl false) q' => mb q' | .exc e q' => .exc e q' | _ => .no) := by
  unfold vor mtb bnd
  cases ma q with
  | ok c q' =>
    cases c <;> try rfl
    rename_i b; cases b <;> rfl
  | _ => rfl
@[simp] theorem x_vnot : vnot ma q = (match ma q with | .ok (.bl b) q' => .ok (.bl (!b)) q' | .exc e q' => .exc e q' | _ => .no) := by
  unfold vnot mtb bnd
  cases ma q with
  | ok c q' => cases c <;> rfl
  | _ => rfl
@[simp] theorem x_vif {t : Q8 → Out Bool} : vif t ma mb q = (match t q with | .ok true q' => ma q' | .ok false q' => mb q' | .exc e q' => .exc e q' | .no => .no) := by
  unfold vif bnd
  cases t q with
  | ok c q' => cases c <;> rfl
  | _ => rfl
@[simp] theorem x_chain {g g' : G2} : mchain g g' ma mb mc q = (match ma q with | .ok a q1 => (match mb q1 with | .ok b q2 => (match g q2.s a b with | some (.bl true) => (match mc q2 with | .ok c q3 => mop (g' q3.s b c) q3 | .exc e q' => .exc e q' | .no => .no) | some (.bl false) => .ok (.bl false) q2 | _ => .no) | .exc e q' => .exc e q' | .no => .no) | .exc e q' => .exc e q' | .no => .no) := by
  unfold mchain bnd
  cases ma q with
  | ok a q1 =>
    dsimp only
    cases mb q1 with
    | ok b q2 =>
      dsimp only
      cases g q2.s a b with
      | none => rfl
      | some k =>
        cases k with
        | bl k =>
          cases k with
          | false => rfl
          | true => dsimp only; cases mc q2 <;> rfl
        | _ => rfl
    | _ => rfl
  | _ => rfl
@[simp] theorem x_m1 {g : G1} : m1 g m q = (match m q with | .ok a q' => mop (g q'.s a) q' | .exc e q' => .exc e q' | .no => .no) := by
  unfold m1 bnd
  cases m q <;> rfl
@[simp] theorem x_mN {g : GL} {ms : Q8 → Out (List D)} : mN g ms q = (match ms q with | .ok a q' => mop (g q'.s a) q' | .exc e q' => .exc e q' | .no => .no) := by
  unfold mN bnd
  cases ms q <;> rfl
@[simp] theorem x_mnil : mnil q = .ok [] q := rfl
@[simp] theorem x_mcons {ms : Q8 → Out (List D)} : mcons m ms q = (match m q with | .ok d q1 => (match ms q1 with | .ok ds q2 => .ok (d :: ds) q2 | .exc e q' => .exc e q' | .no => .no) | .exc e q' => .exc e q' | .no => .no) := by
  unfold mcons bnd
  cases m q with
  | ok d q1 => dsimp only; cases ms q1 <;> rfl
  | _ => rfl
@[simp] theorem x_mtup {ms : Q8 → Out (List D)} : mtup ms q = (match ms q with | .ok ds q' => (if ds.length ≤ sizeLine then .ok (.tup ds) q' else .no) | .exc e q' => .exc e q' | .no => .no) := by
  unfold mtup bnd mop
  cases ms q with
  | ok ds q' => dsimp only; by_cases h : ds.length ≤ sizeLine <;> simp [h]
  | _ => rfl
@[simp] theorem x_mlst {ms : Q8 → Out (List D)} : mlst ms q = (match ms q with | .ok ds q' => (if ds.length ≤ sizeLine then .ok (.lst ds) q' else .no) | .exc e q' => .exc e q' | .no => .no) := by
  unfold mlst bnd mop
  cases ms q with
  | ok ds q' => dsimp only; by_cases h : ds.length ≤ sizeLine <;> simp [h]
  | _ => rfl
@[simp] theorem x_tmlst {ms : Q8 → Out (List D)} : tmlst ms q = (match ms q with | .ok ds q' => (if ds.length ≤ sizeLine then .ok (.fl ds) q' else .no) | .exc e q' => .exc e q' | .no => .no) := by
  unfold tmlst bnd
  cases ms q <;> rfl
@[simp] theorem x_mcall {n : Nat} {F : FF} {ms : Q8 → Out (List D)} : mcall n F ms q = (match ms q with | .ok ds q' => (if ds.length = n then (match F ds q'.s false with | .ok t S' => (if S'.length = q'.s.length then .ok (freeze t) q' else .no) | .exc e S' => (if S'.length = q'.s.length then .exc e q' else .no) | .no => .no) else .no) | .exc e q' => .exc e q' | .no => .no) := by
  unfold mcall bnd
  cases ms q with
  | ok ds q' =>
    dsimp only <;> (
      by_cases h : ds.length = n
      · rw [if_pos h, if_pos h] <;> (cases F ds q'.s false <;> rfl)
      · rw [if_neg h, if_neg h])
  | _ => rfl
@[simp] theorem x_tcall {n : Nat} {F : FF} {ms : Q8 → Out (List D)} : tcall n F ms q = (match ms q with | .ok ds q' => (if ds.length = n then (match F ds q'.s q'.w with | .ok t S' => .ok t { q' with s := S' } | .exc e S' => .exc e { q' with s := S' } | .no => .no) else .no) | .exc e q' => .exc e q' | .no => .no) := by
  unfold tcall bnd
  cases ms q with
  | ok ds q' =>
    dsimp only <;> (
      by_cases h : ds.length = n
      · rw [if_pos h, if_pos h] <;> (cases F ds q'.s q'.w <;> rfl)
      · rw [if_neg h, if_neg h])
  | _ => rfl
@[simp] theorem x_fz {m : Q8 → Out T} : fz m q = (match m q with | .ok t q' => .ok (freeze t) q' | .exc e q' => .exc e q' | .no => .no) := by
  unfold fz bnd
  cases m q <;> rfl
@[simp] theorem x_mD : mD m q = (match m q with | .ok t q' => .ok (.d t) q' | .exc e q' => .exc e q' | .no => .no) := by
  unfold mD bnd
  cases m q <;> rfl
@[simp] theorem x_get2 {G : Tb} : mget2' G ma mb mc q = (match ma q with | .ok d q1 => (if isDic G d = true then (match mb q1 with | .ok k q2 => (match mc q2 with | .ok z q3 => mop (gGet2 G d k z) q3 | .exc e q' => .exc e q' | .no => .no) | .exc e q' => .exc e q' | .no => .no) else .no) | .exc e q' => .exc e q' | .no => .no) := by
  unfold mget2' bnd
  cases ma q with
  | ok d q1 =>
    dsimp only
    by_cases h : isDic G d = true
    · rw [if_pos h, if_pos h]
      cases mb q1 with
      | ok k q2 => dsimp only; cases mc q2 <;> rfl
      | _ => rfl
    · rw [if_neg h, if_neg h]
  | _ => rfl
@[simp] theorem x_msl1 : msl m (some ma) none q = (match m q with | .ok d q1 => (match ma q1 with | .ok (.int i) q2 => mop (gSl (some i) none q2.s d) q2 | .exc e q' => .exc e q' | _ => .no) | .exc e q' => .exc e q' | .no => .no) := by
  unfold msl bnd
  cases m q with
  | ok d q1 =>
    dsimp only
    cases ma q1 with
    | ok l q2 => cases l <;> rfl
    | _ => rfl
  | _ => rfl
@[simp] theorem x_msl2 : msl m none (some ma) q = (match m q with | .ok d q1 => (match ma q1 with | .ok (.int i) q2 => mop (gSl none (some i) q2.s d) q2 | .exc e q' => .exc e q' | _ => .no) | .exc e q' => .exc e q' | .no => .no) := by
  unfold msl bnd
  cases m q with
  | ok d q1 =>
    dsimp only
    cases ma q1 with
    | ok l q2 => cases l <;> rfl
    | _ => rfl
  | _ => rfl
/-! statements -/
@[simp] theorem x_sseq {a b : S8} : sseq a b q = (match a q with | .ok .nx q' => b q' | .ok f q' => .ok f q' | .exc e q' => .exc e q' | .no => .no) := by
  unfold sseq bnd
  cases a q with
  | ok f q' => cases f <;> rfl
  | _ => rfl
@[simp] theorem x_snext : snext q = .ok .nx q := rfl
@[simp] theorem x_sdrop : sdrop m q = (match m q with | .ok d q' => .ok .nx q' | .exc e q' => .exc e q' | .no => .no) := by
  unfold sdrop bnd
  cases m q <;> rfl
@[simp] theorem x_sset {i : Nat} : sset i m q = (match m q with | .ok d q' => (if i < q'.r.length then .ok .nx { q' with r := q'.r.set i (some (.d d)) } else .no) | .exc e q' => .exc e q' | .no => .no) := by
  unfold sset bnd
  cases m q <;> rfl
@[simp] theorem x_sret : sret m q = (match m q with | .ok d q' => .ok (.rt (.d d)) q' | .exc e q' => .exc e q' | .no => .no) := by
  unfold sret bnd
  cases m q <;> rfl
@[simp] theorem x_sretN : sretN q = .ok (.rt (.d .non)) q := rfl
@[simp] theorem x_sretT {m : Q8 → Out T} : sretT m q = (match m q with | .ok d q' => .ok (.rt d) q' | .exc e q' => .exc e q' | .no => .no) := by
  unfold sretT bnd
  cases m q <;> rfl
@[simp] theorem x_sretO {i : Nat} : sretO i q = (match q.r[i]? with | some (some t) => .ok (.rt t) q | _ => .no) := by
  unfold sretO
  cases q.r[i]? with
  | none => rfl
  | some o => cases o <;> rfl
@[simp] theorem x_sif {t : Q8 → Out Bool} {a b : S8} : sif t a b q = (match t q with | .ok true q' => a q' | .ok false q' => b q' | .exc e q' => .exc e q' | .no => .no) := by
  unfold sif bnd
  cases t q with
  | ok c q' => cases c <;> rfl
  | _ => rfl
@[simp] theorem x_sraise {c : Str} : sraise c q = .exc ⟨c, []⟩ q := rfl
@[simp] theorem x_sasg {g : GT} : sasg g m q = (match m q with | .ok d q' => (match g d q' with | some q2 => .ok .nx q2 | none => .no) | .exc e q' => .exc e q' | .no => .no) := by
  unfold sasg bnd
  cases m q with
  | ok d q' => dsimp only <;> (cases g d q' <;> rfl)
  | _ => rfl
@[simp] theorem x_spar {i j : Nat} {ms : Q8 → Out (List D)} : spar i j ms q = (match ms q with | .ok [d, e] q' => (if i < q'.r.length ∧ j < q'.r.length then .ok .nx { q' with r := (q'.r.set i (some (.d d))).set j (some (.d e)) } else .no) | .ok _ _ => .no | .exc e q' => .exc e q' | .no => .no) := by
  unfold spar bnd
  cases ms q with
  | ok ds q' =>
    match ds with
    | [] => rfl
    | [_] => rfl
    | [_, _] => rfl
    | _ :: _ :: _ :: _ => rfl
  | _ => rfl
@[simp] theorem x_ssetT {i : Nat} {m : Q8 → Out T} : ssetT i m q = (match m q with | .ok t q' => (if i < q'.r.length then .ok .nx { q' with r := q'.r.set i (some t) } else .no) | .exc e q' => .exc e q' | .no => .no) := by
  unfold ssetT bnd
  cases m q <;> rfl
@[simp] theorem x_saug {f : Int → Int → Int} {i : Nat} : saug f i m q = (match mvar i q with | .ok (.int x) q1 => (match m q1 with | .ok (.int y) q2 => (if i < q2.r.length then .ok .nx { q2 with r := q2.r.set i (some (.d (.int (f x y)))) } else .no) | .exc e q' => .exc e q' | _ => .no) | .ok _ q1 => (match m q1 with | .exc e q' => .exc e q' | _ => .no) | .exc e q' => .exc e q' | .no => .no) := by
  unfold saug sset bnd
  cases mvar i q with
  | ok a q1 =>
    cases a <;> dsimp only <;> cases m q1 with
    | ok b q2 => cases b <;> rfl
    | _ => rfl
  | _ => rfl
@[simp] theorem x_gset {i : Nat} {d : D} : gset i d q = (if datS q.r i = true then some { q with r := q.r.set i (some (.d d)) } else none) := rfl
@[simp] theorem x_gnil : gnil [] q = some q := rfl
@[simp] theorem x_gcons {g : GT} {gs : GTs} {d : D} {ds : List D} : gcons g gs (d :: ds) q = (match g d q with | some q1 => gs ds q1 | none => none) := by
  unfold gcons
  dsimp only
  cases g d q <;> rfl
@[simp] theorem x_gtup {n : Nat} {gs : GTs} {ds : List D} : gtup n gs (.tup ds) q = (if ds.length = n then gs ds q else none) := rfl
@[simp] theorem x_gtupL {n : Nat} {gs : GTs} {ds : List D} : gtup n gs (.lst ds) q = (if ds.length = n then gs ds q else none) := rfl
@[simp] theorem x_gstar {n : Nat} {gs : GTs} {ds : List D} : gstar n gs (.tup ds) q = (if n ≤ ds.length then gs (ds.take n ++ [.lst (ds.drop n)]) q else none) := rfl
@[simp] theorem x_isrc : isrc m q = (match m q with | .ok d q' => mop (itemsD d) q' | .exc e q' => .exc e q' | .no => .no) := by
  unfold isrc bnd
  cases m q <;> rfl
@[simp] theorem x_ienum : ienum m q = (match m q with | .ok d q' => mop ((itemsD d).map fun xs => (xs.zipIdx).map fun p => .tup [.int (p.2 : Nat), p.1]) q' | .exc e q' => .exc e q' | .no => .no) := by
  unfold ienum bnd
  cases m q <;> rfl
def zip8 (a b : D) : Option (List D) := match itemsD a, itemsD b with
  | some xs, some ys => some ((xs.zip ys).map fun p => .tup [p.1, p.2])
  | _, _ => none
@[simp] theorem x_izip : izip ma mb q = (match ma q with | .ok a q1 => (match mb q1 with | .ok b q2 => mop (zip8 a b) q2 | .exc e q' => .exc e q' | .no => .no) | .exc e q' => .exc e q' | .no => .no) := by
  unfold izip bnd
  cases ma q with
  | ok a q1 => dsimp only; cases mb q1 <;> rfl
  | _ => rfl
@[simp] theorem x_irange1 : irange1 m q = (match m q with | .ok (.int b) q' => (if -(2 ^ 62) ≤ b ∧ b < 2 ^ 62 then .ok (rng 0 b) q' else .no) | .exc e q' => .exc e q' | _ => .no) := by
  unfold irange1 bnd
  cases m q with
  | ok d q' => cases d <;> rfl
  | _ => rfl
@[simp] theorem x_run {N : Nat} {b : S8} {ds : List D} : runF N b ds s w = (match b ⟨slots0 N ds, s, w⟩ with | .ok (.rt t) q => (if q.w = w then .ok t q.s else .no) | .ok .nx q => (if q.w = w then .ok (.d .non) q.s else .no) | .exc e q => (if q.w = w then .exc e q.s else .no) | _ => .no) := by
  unfold runF
  cases b ⟨slots0 N ds, s, w⟩ with
  | ok f q => cases f <;> rfl
  | _ => rfl
/-! loops, comprehensions that change nothing -/
@[simp] theorem x_mcomp {it : Q8 → Out (List D)} {g : GT} {t : Q8 → Out Bool} {e : A → Q8 → Out A} {vs : List Nat} {a0 : A} {fin : A → Q8 → Out B} :
    mcomp it g t e vs a0 fin q = (match it q with | .ok ds q' => (if okW q'.r vs = true then (match tnL g t e vs ds a0 ⟨wipeR q'.r vs, q'.s, q'.w⟩ with | .ok a q2 => fin a q2 | .exc e q2 => .exc e q2 | .no => .no) else .no) | .exc e q' => .exc e q' | .no => .no) := by
  unfold mcomp bnd
  cases it q with
  | ok ds q' =>
    dsimp only <;> (
      by_cases h : okW q'.r vs = true
      · rw [if_pos h, if_pos h] <;> (cases tnL g t e vs ds a0 ⟨wipeR q'.r vs, q'.s, q'.w⟩ <;> rfl)
      · rw [if_neg h, if_neg h])
  | _ => rfl
/-- a list comprehension whose parts read alone -/
theorem tn_pure {g : GT} {t : Q8 → Out Bool} {e : M8} {vs : List Nat} {q0 : Q8} (P : D → Bool) (f : D → D) : ∀ (ds acc : List D), (∀ d ∈ ds, ∃ q2, g d q0 = some q2 ∧ t q2 = .ok (P d) q2 ∧ (P d = true → e q2 = .ok (f d) q2) ∧ okW q2.r vs = true ∧ wipeR q2.r vs = q0.r ∧ q2.s = q0.s ∧ q2.w = q0.w) →
    acc.length + ds.length ≤ sizeLine → tnL g t (stL e) vs ds acc q0 = .ok (acc ++ (ds.filter P).map f) q0
  | [], acc, _, _ => by simp [tnL, mret]
  | d :: ds, acc, h, hl => by
    obtain ⟨q2, hg, ht, he, ho, hr, hs, hw⟩ := h d (by simp)
    have eq : (⟨wipeR q2.r vs, q2.s, q2.w⟩ : Q8) = q0 := by rw [hr, hs, hw]
    have ih := fun acc => tn_pure (g := g) (t := t) (e := e) (vs := vs) (q0 := q0) P f ds acc fun d hd => h d (List.mem_cons_of_mem _ hd)
    rw [List.length_cons] at hl
    unfold tnL
    rw [hg]
    dsimp only
    rw [ht]
    cases hp : P d with
    | false =>
      dsimp only
      rw [if_pos ho, eq, ih acc (by omega), List.filter_cons_of_neg (by simp [hp])]
    | true =>
      have hst : stL e acc q2 = .ok (acc ++ [f d]) q2 := by
        unfold stL bnd
        rw [he hp]
        dsimp only
        rw [if_pos (by omega)]
        rfl
      dsimp only
      rw [hst]
      dsimp only
      rw [if_pos ho, eq, ih _ (by rw [List.length_append, List.length_singleton]; omega), List.filter_cons_of_pos hp, List.map_cons, List.append_assoc]
      rfl
/-- .. over what is plain data -/
theorem tn_map {ι : Type} {g : GT} {t : Q8 → Out Bool} {e : M8} {vs : List Nat} {q0 : Q8} (inj : ι → D) (P : ι → Bool) (f : ι → D) : ∀ (xs : List ι) (acc : List D), (∀ x ∈ xs, ∃ q2, g (inj x) q0 = some q2 ∧ t q2 = .ok (P x) q2 ∧ (P x = true → e q2 = .ok (f x) q2) ∧ okW q2.r vs = true ∧ wipeR q2.r vs = q0.r ∧ q2.s = q0.s ∧ q2.w = q0.w) →
    acc.length + xs.length ≤ sizeLine → tnL g t (stL e) vs (xs.map inj) acc q0 = .ok (acc ++ (xs.filter P).map f) q0
  | [], acc, _, _ => by simp [tnL, mret]
  | x :: xs, acc, h, hl => by
    obtain ⟨q2, hg, ht, he, ho, hr, hs, hw⟩ := h x (by simp)
    have eq : (⟨wipeR q2.r vs, q2.s, q2.w⟩ : Q8) = q0 := by rw [hr, hs, hw]
    have ih := fun acc => tn_map (g := g) (t := t) (e := e) (vs := vs) (q0 := q0) inj P f xs acc fun d hd => h d (List.mem_cons_of_mem _ hd)
    rw [List.length_cons] at hl
    rw [List.map_cons]
    unfold tnL
    rw [hg]
    dsimp only
    rw [ht]
    cases hp : P x with
    | false =>
      dsimp only
      rw [if_pos ho, eq, ih acc (by omega), List.filter_cons_of_neg (by simp [hp])]
    | true =>
      have hst : stL e acc q2 = .ok (acc ++ [f x]) q2 := by
        unfold stL bnd
        rw [he hp]
        dsimp only
        rw [if_pos (by omega)]
        rfl
      dsimp only
      rw [hst]
      dsimp only
      rw [if_pos ho, eq, ih _ (by rw [List.length_append, List.length_singleton]; omega), List.filter_cons_of_pos hp, List.map_cons, List.append_assoc]
      rfl
/-- .. of two clauses -/
theorem tn2_map {ι κ : Type} {g : GT} {t : Q8 → Out Bool} {it1 : Q8 → Out (List D)} {g1 : GT} {t1 : Q8 → Out Bool} {e : M8} {vs vs1 : List Nat} {q0 : Q8} (inj : ι → D) (rows : ι → List κ) (inj1 : κ → D) (P : ι → Bool) (P1 : ι → κ → Bool) (f : ι → κ → D) : ∀ (xs : List ι) (acc : List D),
    (∀ x ∈ xs, ∃ q2, g (inj x) q0 = some q2 ∧ t q2 = .ok (P x) q2 ∧ okW q2.r vs = true ∧ wipeR q2.r vs = q0.r ∧ q2.s = q0.s ∧ q2.w = q0.w ∧ (P x = true → it1 q2 = .ok ((rows x).map inj1) q2 ∧ okW q2.r vs1 = true ∧ okW (wipeR q2.r vs1) vs = true ∧ wipeR (wipeR q2.r vs1) vs = q0.r ∧
      ∀ y ∈ rows x, ∃ q3, g1 (inj1 y) ⟨wipeR q2.r vs1, q2.s, q2.w⟩ = some q3 ∧ t1 q3 = .ok (P1 x y) q3 ∧ (P1 x y = true → e q3 = .ok (f x y) q3) ∧ okW q3.r vs1 = true ∧ wipeR q3.r vs1 = wipeR q2.r vs1 ∧ q3.s = q2.s ∧ q3.w = q2.w)) →
    acc.length + (xs.map fun x => (rows x).length).sum ≤ sizeLine → tnL g t (st2 it1 g1 t1 (stL e) vs1) vs (xs.map inj) acc q0 = .ok (acc ++ (xs.filter P).flatMap fun x => ((rows x).filter (P1 x)).map (f x)) q0
  | [], acc, _, _ => by simp [tnL, mret]
  | x :: xs, acc, h, hl => by
    obtain ⟨q2, hg, ht, ho, hr, hs, hw, he⟩ := h x (by simp)
    have eq : (⟨wipeR q2.r vs, q2.s, q2.w⟩ : Q8) = q0 := by rw [hr, hs, hw]
    have ih := fun acc => tn2_map (g := g) (t := t) (it1 := it1) (g1 := g1) (t1 := t1) (e := e) (vs := vs) (vs1 := vs1) (q0 := q0) inj rows inj1 P P1 f xs acc fun d hd => h d (List.mem_cons_of_mem _ hd)
    rw [List.map_cons, List.sum_cons] at hl
    rw [List.map_cons]
    unfold tnL
    rw [hg]
    dsimp only
    rw [ht]
    cases hp : P x with
    | false =>
      dsimp only
      rw [if_pos ho, eq, ih acc (by omega), List.filter_cons_of_neg (by simp [hp])]
    | true =>
      obtain ⟨h1, h2, h3, h4, h5⟩ := he hp
      have inner := tn_map (g := g1) (t := t1) (e := e) (vs := vs1) (q0 := ⟨wipeR q2.r vs1, q2.s, q2.w⟩) inj1 (P1 x) (f x) (rows x) acc h5 (by omega)
      have hst : st2 it1 g1 t1 (stL e) vs1 acc q2 = .ok (acc ++ ((rows x).filter (P1 x)).map (f x)) ⟨wipeR q2.r vs1, q2.s, q2.w⟩ := by
        unfold st2 bnd
        rw [h1]
        dsimp only
        rw [if_pos h2]
        exact inner
      have eq2 : (⟨wipeR (wipeR q2.r vs1) vs, q2.s, q2.w⟩ : Q8) = q0 := by rw [h4, hs, hw]
      have hfl : (((rows x).filter (P1 x)).map (f x)).length ≤ (rows x).length := by rw [List.length_map]; exact List.length_filter_le _ _
      dsimp only
      rw [hst]
      dsimp only
      rw [if_pos h3, eq2, ih _ (by rw [List.length_append]; omega), List.filter_cons_of_pos hp, List.flatMap_cons, List.append_assoc]
@[simp] theorem x_mlc2 {it it1 : Q8 → Out (List D)} {g g1 : GT} {t t1 : Q8 → Out Bool} {e : M8} {vs vs1 : List Nat} :
    mlc2 it g t it1 g1 t1 e vs vs1 q = (match it q with | .ok ds q' => (if okW q'.r vs = true then (match tnL g t (st2 it1 g1 t1 (stL e) vs1) vs ds [] ⟨wipeR q'.r vs, q'.s, q'.w⟩ with | .ok a q2 => .ok (.lst a) q2 | .exc e q2 => .exc e q2 | .no => .no) else .no) | .exc e q' => .exc e q' | .no => .no) := by
  unfold mlc2
  rw [x_mcomp]
  cases it q with
  | ok ds q' =>
    dsimp only <;> (
      by_cases h : okW q'.r vs = true
      · rw [if_pos h, if_pos h] <;> (cases tnL g t (st2 it1 g1 t1 (stL e) vs1) vs ds [] ⟨wipeR q'.r vs, q'.s, q'.w⟩ <;> rfl)
      · rw [if_neg h, if_neg h])
  | _ => rfl
@[simp] theorem x_mlc {it : Q8 → Out (List D)} {g : GT} {t : Q8 → Out Bool} {e : M8} {vs : List Nat} :
    mlc it g t e vs q = (match it q with | .ok ds q' => (if okW q'.r vs = true then (match tnL g t (stL e) vs ds [] ⟨wipeR q'.r vs, q'.s, q'.w⟩ with | .ok a q2 => .ok (.lst a) q2 | .exc e q2 => .exc e q2 | .no => .no) else .no) | .exc e q' => .exc e q' | .no => .no) := by
  unfold mlc
  rw [x_mcomp]
  cases it q with
  | ok ds q' =>
    dsimp only <;> (
      by_cases h : okW q'.r vs = true
      · rw [if_pos h, if_pos h] <;> (cases tnL g t (stL e) vs ds [] ⟨wipeR q'.r vs, q'.s, q'.w⟩ <;> rfl)
      · rw [if_neg h, if_neg h])
  | _ => rfl
@[simp] theorem x_sfor {it : Q8 → Out (List D)} {g : GT} {b : S8} : sfor it g b q = (match it q with | .ok ds q' => sforL g b ds q' | .exc e q' => .exc e q' | .no => .no) := by
  unfold sfor bnd
  cases it q <;> rfl
end
end Fy

set_option maxHeartbeats 4000000
namespace K90
open PySem PySem.Spec PyProof.Rows L2 Fy
def topS (i : Nat) : Stmt := PySem.Challenge.pw_giveway_k90_whole_ways_and_bars_of_rows.main.body.getD i (.Pass ⟨0, 0, 0, 0⟩)
def c_BLOCKED : Fy.D := (.tup [(.str "if"), (.str "while")])
def c_CAPITALS : Fy.D := (.str "ABCDEFGHIJKLMNOPQRSTUVWXYZ")
def c_END : Fy.D := (.int (-1))
def c_FILLED : Fy.D := .gl "FILLED"
def c_FORMS : Fy.D := .gl "FORMS"
def c_GIVE : Fy.D := (.str "give")
def c_MARKED : Fy.D := (.tup [(.str "let"), (.str "hang"), (.str "pick"), (.str "send")])
def c_MARKS : Fy.D := (.tup [(.str "copy"), (.str "give")])
def c_MOST_CHANNELS : Fy.D := (.int (6))
def c_MOST_NUMBER : Fy.D := (.int (9999))
def c_MOST_SIGNS : Fy.D := (.int (6))
def c_MOST_STATEMENTS : Fy.D := (.int (40))
def c_OPS : Fy.D := (.tup [(.str "+"), (.str "-"), (.str "*"), (.str "<"), (.str "=")])
def c_PLACES : Fy.D := (.int (3))
def c_SMALL : Fy.D := (.str "abcdefghijklmnopqrstuvwxyz")
def c_SPENT : Fy.D := .gl "SPENT"
def c_UNLIKE : Fy.D := .gl "UNLIKE"
def c_USED : Fy.D := .gl "USED"
def t_FILLED : List (Str × Fy.D) := [("new", (.int (1))), ("let", (.int (1))), ("pick", (.int (1))), ("take", (.int (1)))]
def t_FORMS : List (Str × Fy.D) := [("num", (.str "an")), ("sum", (.str "aaoa")), ("new", (.str "g")), ("let", (.str "gg")), ("add", (.str "ga")), ("put", (.str "gaka")), ("tie", (.str "gaka")), ("hang", (.str "gakg")), ("get", (.str "agak")), ("sort", (.str "agak")), ("pick", (.str "ggak")), ("send", (.str "sg")), ("take", (.str "gt")), ("tell", (.str "a")), ("show", (.str "g")), ("if", (.str "abb")), ("while", (.str "ab"))]
def t_SPENT : List (Str × Fy.D) := [("let", (.int (2))), ("hang", (.int (4))), ("pick", (.int (2))), ("send", (.int (2)))]
def t_UNLIKE : List (Str × Fy.D) := [("let", (.tup [(.int (1)), (.int (2))])), ("hang", (.tup [(.int (1)), (.int (4))]))]
def t_USED : List (Str × Fy.D) := [("let", (.tup [(.int (2))])), ("pick", (.tup [(.int (2))])), ("add", (.tup [(.int (1))])), ("put", (.tup [(.int (1))])), ("tie", (.tup [(.int (1))])), ("get", (.tup [(.int (2))])), ("sort", (.tup [(.int (2))])), ("send", (.tup [(.int (2))])), ("show", (.tup [(.int (1))])), ("hang", (.tup [(.int (1)), (.int (4))]))]
def G : Tb := fun x => if x = "FILLED" then t_FILLED else if x = "FORMS" then t_FORMS else if x = "SPENT" then t_SPENT else if x = "UNLIKE" then t_UNLIKE else if x = "USED" then t_USED else []
structure Fx (w : World) (K : PySem.W.Frag) (mg : Str → Option Value) : Prop where
  b_all : mg "all" = none
  b_any : mg "any" = none
  b_bool : mg "bool" = none
  b_enumerate : mg "enumerate" = none
  b_int : mg "int" = none
  b_isinstance : mg "isinstance" = none
  b_len : mg "len" = none
  b_list : mg "list" = none
  b_max : mg "max" = none
  b_min : mg "min" = none
  b_range : mg "range" = none
  b_sorted : mg "sorted" = none
  b_str : mg "str" = none
  b_tuple : mg "tuple" = none
  b_zip : mg "zip" = none
  c_BLOCKED : GC K mg "BLOCKED" c_BLOCKED
  c_CAPITALS : GC K mg "CAPITALS" c_CAPITALS
  c_END : GC K mg "END" c_END
  c_FILLED : GC K mg "FILLED" c_FILLED
  c_FORMS : GC K mg "FORMS" c_FORMS
  c_GIVE : GC K mg "GIVE" c_GIVE
  c_MARKED : GC K mg "MARKED" c_MARKED
  c_MARKS : GC K mg "MARKS" c_MARKS
  c_MOST_CHANNELS : GC K mg "MOST_CHANNELS" c_MOST_CHANNELS
  c_MOST_NUMBER : GC K mg "MOST_NUMBER" c_MOST_NUMBER
  c_MOST_SIGNS : GC K mg "MOST_SIGNS" c_MOST_SIGNS
  c_MOST_STATEMENTS : GC K mg "MOST_STATEMENTS" c_MOST_STATEMENTS
  c_OPS : GC K mg "OPS" c_OPS
  c_PLACES : GC K mg "PLACES" c_PLACES
  c_SMALL : GC K mg "SMALL" c_SMALL
  c_SPENT : GC K mg "SPENT" c_SPENT
  c_UNLIKE : GC K mg "UNLIKE" c_UNLIKE
  c_USED : GC K mg "USED" c_USED
  x_NoChart : XcF K mg "NoChart"
  x_NoCode : XcF K mg "NoCode"
  x_NoPoints : XcF K mg "NoPoints"
  x_NoRow : XcF K mg "NoRow"
  f_is_whole : FnIs K mg "is_whole" (topS 7)
  f_ahead_of : FnIs K mg "ahead_of" (topS 16)
  f_come_to : FnIs K mg "come_to" (topS 17)
  f_is_number_name : FnIs K mg "is_number_name" (topS 34)
  f_is_graph_name : FnIs K mg "is_graph_name" (topS 35)
  f_is_op : FnIs K mg "is_op" (topS 36)
  f_has_word : FnIs K mg "has_word" (topS 39)
  f_ends_in : FnIs K mg "ends_in" (topS 49)
  f_used_by : FnIs K mg "used_by" (topS 56)
  f_filled_by : FnIs K mg "filled_by" (topS 57)
  f_spent_by : FnIs K mg "spent_by" (topS 58)
  f__law_cell_at : FnIs K mg "_law_cell_at" (topS 70)
  f__law_choice : FnIs K mg "_law_choice" (topS 72)
  f__law_marked : FnIs K mg "_law_marked" (topS 74)
  f__law_uses : FnIs K mg "_law_uses" (topS 75)
  f__law_fills : FnIs K mg "_law_fills" (topS 76)
  f__law_spends : FnIs K mg "_law_spends" (topS 77)
  f_is_within : FnIs K mg "is_within" (topS 8)
  f_way_by : FnIs K mg "way_by" (topS 18)
  f_rows_behind : FnIs K mg "rows_behind" (topS 59)
  f__law_state : FnIs K mg "_law_state" (topS 71)
  f__law_simple : FnIs K mg "_law_simple" (topS 73)
  f__law_onward : FnIs K mg "_law_onward" (topS 78)
  f__law_with_marks : FnIs K mg "_law_with_marks" (topS 80)
  f__law_way_right : FnIs K mg "_law_way_right" (topS 81)
  f__law_bar_right : FnIs K mg "_law_bar_right" (topS 82)
  f_are_points : FnIs K mg "are_points" (topS 9)
  f_is_row_of_points : FnIs K mg "is_row_of_points" (topS 13)
  f_paper_by : FnIs K mg "paper_by" (topS 19)
  f_is_number : FnIs K mg "is_number" (topS 24)
  f_is_end_of : FnIs K mg "is_end_of" (topS 37)
  f_case_by : FnIs K mg "case_by" (topS 60)
  f_need_row : FnIs K mg "need_row" (topS 61)
  f__law_rows : FnIs K mg "_law_rows" (topS 79)
  f_is_chart : FnIs K mg "is_chart" (topS 10)
  f_is_part : FnIs K mg "is_part" (topS 38)
  f_paper_by_row : FnIs K mg "paper_by_row" (topS 63)
  f_need_chart : FnIs K mg "need_chart" (topS 11)
  f_is_deed : FnIs K mg "is_deed" (topS 40)
  f_copies_by : FnIs K mg "copies_by" (topS 65)
  f_need_all : FnIs K mg "need_all" (topS 12)
  f_is_row_deed : FnIs K mg "is_row_deed" (topS 46)
  f_unsafe_row : FnIs K mg "unsafe_row" (topS 67)
  f_is_way : FnIs K mg "is_way" (topS 14)
  f_is_bar : FnIs K mg "is_bar" (topS 15)
  f_paper : FnIs K mg "paper" (topS 20)
  f_is_row : FnIs K mg "is_row" (topS 47)
  f_are_rows : FnIs K mg "are_rows" (topS 48)
  f_need_rows : FnIs K mg "need_rows" (topS 50)
  f_case_of : FnIs K mg "case_of" (topS 62)
  f_paper_of : FnIs K mg "paper_of" (topS 64)
  f_must_copy : FnIs K mg "must_copy" (topS 66)
  f_unsafe : FnIs K mg "unsafe" (topS 68)
  f__law_row_right : FnIs K mg "_law_row_right" (topS 83)
  f__law_alone_right : FnIs K mg "_law_alone_right" (topS 84)
  f_law : FnIs K mg "law" (topS 85)
  hG : Tabs K w mg G
variable {P : Program} {w : World} {K : PySem.W.Frag} {mg : Str → Option Value} {base : Heap}
noncomputable def m_is_whole : S8 := (sret (vand (m1 (gIsI "int") (mvar 0)) (vnot (m1 (gIsI "bool") (mvar 0)))))
noncomputable def F_is_whole : FF := runF 1 m_is_whole
theorem sc_is_whole : FnScope ["thing"] ["thing"] (defScope (topS 7)) := ⟨rfl, rfl, rfl, by decide +kernel, rfl, by decide +kernel, by decide +kernel⟩
theorem ok_is_whole (fx : Fx w K mg) : Fd P w K mg base 1 "is_whole" 1 F_is_whole :=
  fd_of (k := 0) fx.f_is_whole sc_is_whole rfl (fun _ _ _ _ _ _ us hl => match us, hl with | [_], _ => rfl) fun f cdv A outer s H E hr =>
  (sx_one (sx_ret (px_and (px_isi kt_int (by decide +kernel) fx.b_int fx.b_isinstance (px_var 0)) (px_one (px_not (px_isi kt_bool (by decide +kernel) fx.b_bool fx.b_isinstance (px_var 0)))))))
noncomputable def f1_ahead_of : S8 := (sif (tand (mtb (mbin (gIn G) (mbin (gIx G) (mvw 3) (mvar 4)) (mvar 6))) (mtb (mbin (gNotIn G) (mvar 5) (mvw 2)))) (sseq (ssub 2 (mvar 5) (mbin gAdd (mbin (gIx G) (mvw 2) (mbin (gIx G) (mvw 3) (mvar 4))) (mret (.int 1)))) (sapp 3 (mvar 5))) snext)
noncomputable def w2_ahead_of : S8 := (sseq (sfor (ienum (mvar 0)) (gtup 2 (gcons (gset 5) (gcons (gset 6) gnil))) f1_ahead_of) (saug (fun i j => i + j) 4 (mret (.int 1))))
noncomputable def m_ahead_of : S8 := (sseq (ssetT 2 (tmdc (isrc (mvar 1)) (gset 7) tyes (mvar 7) (mret (.int 0)) [7])) (sseq (ssetT 3 (tmlist (mvar 1))) (sseq (sset 4 (mret (.int 0))) (sseq (swhile (mtb (mbin gLt (mvar 4) (m1 gLen (mvw 3)))) w2_ahead_of) (sretO 2)))))
noncomputable def F_ahead_of : FF := runF 8 m_ahead_of
theorem sc_ahead_of : FnScope ["chart", "goals", "far", "line", "at", "point", "nexts", "goal"] ["chart", "goals"] (defScope (topS 16)) := ⟨rfl, rfl, rfl, by decide +kernel, rfl, by decide +kernel, by decide +kernel⟩
theorem ok_ahead_of (fx : Fx w K mg) : Fd P w K mg base 1 "ahead_of" 2 F_ahead_of :=
  fd_of (k := 0) fx.f_ahead_of sc_ahead_of rfl (fun _ _ _ _ _ _ us hl => match us, hl with | [_, _], _ => rfl) fun f cdv A outer s H E hr =>
  (sx_cons (sx_setDcT rfl sc_ahead_of.nd (pix_seq (px_var 1)) (blkOk_by (own := [("goal", 7)]) (by rfl)) (fun _ _ _ _ _ => (pgx_name 7 sc_ahead_of.nd)) (fun _ _ _ _ _ => ptx_nil) (fun _ _ _ _ _ => (px_var 7)) (fun _ _ _ _ _ => px_int)) (sx_cons (sx_setT sc_ahead_of.nd (pxt_tolist fx.b_list (px_var 1))) (sx_cons (sx_set sc_ahead_of.nd px_int) (sx_cons (sx_while (passes_of rfl) (pt_lt8 (px_var 4) (px_len fx.b_len (px_vw 3))) (sx_cons (sx_for (passes_of rfl) rfl (pix_enum fx.b_enumerate (px_var 0)) (pgx_tup rfl (pgx_cons (pgx_name 5 sc_ahead_of.nd) (pgx_cons (pgx_name 6 sc_ahead_of.nd) pgx_nil))) (sx_one (sx_if (xt_w (xw_and (pt_in8 fx.hG (room_u hr) (px_ix fx.hG (room_u hr) (px_vw 3) (px_var 4)) (px_var 6)) (xw_and1 (pt_notin8 fx.hG (room_u hr) (px_var 5) (px_vw 2))))) (sx_cons (sx_sub (room_u hr) (px_add (px_ix fx.hG (room_u hr) (px_vw 2) (px_ix fx.hG (room_u hr) (px_vw 3) (px_var 4))) px_int) (px_var 5)) (sx_one (sx_app (px_var 5)))) sx_nil))) (sx_one (sx_aug sc_ahead_of.nd ip_add px_int)))) (sx_one sx_retO)))))
noncomputable def f1_come_to : S8 := (sif (mtb (mbin (gNotIn G) (mvar 5) (mvw 2))) (sseq (ssub 2 (mvar 5) (mret (.bl true))) (sapp 3 (mvar 5))) snext)
noncomputable def w2_come_to : S8 := (sseq (sfor (isrc (mbin (gIx G) (mvar 0) (mbin (gIx G) (mvw 3) (mvar 4)))) (gset 5) f1_come_to) (saug (fun i j => i + j) 4 (mret (.int 1))))
noncomputable def m_come_to : S8 := (sseq (ssetT 2 (tmdc (isrc (mvar 1)) (gset 6) tyes (mvar 6) (mret (.bl true)) [6])) (sseq (ssetT 3 (tmlist (mvar 1))) (sseq (sset 4 (mret (.int 0))) (sseq (swhile (mtb (mbin gLt (mvar 4) (m1 gLen (mvw 3)))) w2_come_to) (sret (m1 gTuple (m1 gSorted (mvw 2))))))))
noncomputable def F_come_to : FF := runF 7 m_come_to
theorem sc_come_to : FnScope ["chart", "starts", "seen", "line", "at", "other", "start"] ["chart", "starts"] (defScope (topS 17)) := ⟨rfl, rfl, rfl, by decide +kernel, rfl, by decide +kernel, by decide +kernel⟩
theorem ok_come_to (fx : Fx w K mg) : Fd P w K mg base 1 "come_to" 2 F_come_to :=
  fd_of (k := 0) fx.f_come_to sc_come_to rfl (fun _ _ _ _ _ _ us hl => match us, hl with | [_, _], _ => rfl) fun f cdv A outer s H E hr =>
  (sx_cons (sx_setDcT rfl sc_come_to.nd (pix_seq (px_var 1)) (blkOk_by (own := [("start", 6)]) (by rfl)) (fun _ _ _ _ _ => (pgx_name 6 sc_come_to.nd)) (fun _ _ _ _ _ => ptx_nil) (fun _ _ _ _ _ => (px_var 6)) (fun _ _ _ _ _ => px_bl)) (sx_cons (sx_setT sc_come_to.nd (pxt_tolist fx.b_list (px_var 1))) (sx_cons (sx_set sc_come_to.nd px_int) (sx_cons (sx_while (passes_of rfl) (pt_lt8 (px_var 4) (px_len fx.b_len (px_vw 3))) (sx_cons (sx_for (passes_of rfl) rfl (pix_seq (px_ix fx.hG (room_u hr) (px_var 0) (px_ix fx.hG (room_u hr) (px_vw 3) (px_var 4)))) (pgx_name 5 sc_come_to.nd) (sx_one (sx_if (pt_notin8 fx.hG (room_u hr) (px_var 5) (px_vw 2)) (sx_cons (sx_sub (room_u hr) px_bl (px_var 5)) (sx_one (sx_app (px_var 5)))) sx_nil))) (sx_one (sx_aug sc_come_to.nd ip_add px_int)))) (sx_one (sx_ret (px_totuple fx.b_tuple (px_sorted rfl fx.b_sorted (px_vw 2)))))))))
noncomputable def m_is_number_name : S8 := (sseq (sif (tor (tnot (mtb (m1 (gIsI "str") (mvar 0)))) (tnot (mtb (mchain gLe gLe (mret (.int 1)) (m1 gLen (mvar 0)) (mret c_MOST_SIGNS))))) (sret (mret (.bl false))) snext) (sret (m1 gAll (mlc (isrc (mvar 0)) (gset 1) tyes (mbin (gIn G) (mvar 1) (mret c_SMALL)) [1]))))
noncomputable def F_is_number_name : FF := runF 2 m_is_number_name
theorem sc_is_number_name : FnScope ["thing", "sign"] ["thing"] (defScope (topS 34)) := ⟨rfl, rfl, rfl, by decide +kernel, rfl, by decide +kernel, by decide +kernel⟩
theorem ok_is_number_name (fx : Fx w K mg) : Fd P w K mg base 1 "is_number_name" 1 F_is_number_name :=
  fd_of (k := 0) fx.f_is_number_name sc_is_number_name rfl (fun _ _ _ _ _ _ us hl => match us, hl with | [_], _ => rfl) fun f cdv A outer s H E hr =>
  (sx_cons (sx_if (xt_w (xw_or (xt_not (pt_val8 (px_isi kt_str (by decide +kernel) fx.b_str fx.b_isinstance (px_var 0)))) (xw_or1 (xt_not (pt_chain8 op_le s_le op_le s_le px_int (px_len fx.b_len (px_var 0)) (px_g fx.c_MOST_SIGNS)))))) (sx_one (sx_ret px_bl)) sx_nil) (sx_one (sx_ret (px_all rfl fx.b_all (px_lc rfl sc_is_number_name.nd (pix_seq (px_var 0)) (blkOk_by (own := [("sign", 1)]) (by rfl)) (fun _ _ _ _ _ => (pgx_name 1 sc_is_number_name.nd)) (fun _ _ _ _ _ => ptx_nil) (fun _ _ _ _ _ => (px_in fx.hG (room_u hr) (px_var 1) (px_g fx.c_SMALL))))))))
noncomputable def m_is_graph_name : S8 := (sseq (sif (tor (tnot (mtb (m1 (gIsI "str") (mvar 0)))) (tor (tnot (mtb (mchain gLe gLe (mret (.int 1)) (m1 gLen (mvar 0)) (mret c_MOST_SIGNS)))) (mtb (mbin (gNotIn G) (mbin (gIx G) (mvar 0) (mret (.int 0))) (mret c_CAPITALS))))) (sret (mret (.bl false))) snext) (sret (m1 gAll (mlc (isrc (msl (mvar 0) (some (mret (.int 1))) none)) (gset 1) tyes (mbin (gIn G) (mvar 1) (mret c_SMALL)) [1]))))
noncomputable def F_is_graph_name : FF := runF 2 m_is_graph_name
theorem sc_is_graph_name : FnScope ["thing", "sign"] ["thing"] (defScope (topS 35)) := ⟨rfl, rfl, rfl, by decide +kernel, rfl, by decide +kernel, by decide +kernel⟩
theorem ok_is_graph_name (fx : Fx w K mg) : Fd P w K mg base 1 "is_graph_name" 1 F_is_graph_name :=
  fd_of (k := 0) fx.f_is_graph_name sc_is_graph_name rfl (fun _ _ _ _ _ _ us hl => match us, hl with | [_], _ => rfl) fun f cdv A outer s H E hr =>
  (sx_cons (sx_if (xt_w (xw_or (xt_not (pt_val8 (px_isi kt_str (by decide +kernel) fx.b_str fx.b_isinstance (px_var 0)))) (xw_or (xt_not (pt_chain8 op_le s_le op_le s_le px_int (px_len fx.b_len (px_var 0)) (px_g fx.c_MOST_SIGNS))) (xw_or1 (pt_notin8 fx.hG (room_u hr) (px_ix fx.hG (room_u hr) (px_var 0) px_int) (px_g fx.c_CAPITALS)))))) (sx_one (sx_ret px_bl)) sx_nil) (sx_one (sx_ret (px_all rfl fx.b_all (px_lc rfl sc_is_graph_name.nd (pix_seq (px_sl1 (px_var 0) px_int)) (blkOk_by (own := [("sign", 1)]) (by rfl)) (fun _ _ _ _ _ => (pgx_name 1 sc_is_graph_name.nd)) (fun _ _ _ _ _ => ptx_nil) (fun _ _ _ _ _ => (px_in fx.hG (room_u hr) (px_var 1) (px_g fx.c_SMALL))))))))
noncomputable def m_is_op : S8 := (sret (vand (m1 (gIsI "str") (mvar 0)) (mbin (gIn G) (mvar 0) (mret c_OPS))))
noncomputable def F_is_op : FF := runF 1 m_is_op
theorem sc_is_op : FnScope ["thing"] ["thing"] (defScope (topS 36)) := ⟨rfl, rfl, rfl, by decide +kernel, rfl, by decide +kernel, by decide +kernel⟩
theorem ok_is_op (fx : Fx w K mg) : Fd P w K mg base 1 "is_op" 1 F_is_op :=
  fd_of (k := 0) fx.f_is_op sc_is_op rfl (fun _ _ _ _ _ _ us hl => match us, hl with | [_], _ => rfl) fun f cdv A outer s H E hr =>
  (sx_one (sx_ret (px_and (px_isi kt_str (by decide +kernel) fx.b_str fx.b_isinstance (px_var 0)) (px_one (px_in fx.hG (room_u hr) (px_var 0) (px_g fx.c_OPS))))))
noncomputable def m_has_word : S8 := (sret (vand (m1 (gIsI "tuple") (mvar 0)) (vand (mbin gNe (mvar 0) (mtup mnil)) (vand (m1 (gIsI "str") (mbin (gIx G) (mvar 0) (mret (.int 0)))) (mbin (gIn G) (mbin (gIx G) (mvar 0) (mret (.int 0))) (mret c_FORMS))))))
noncomputable def F_has_word : FF := runF 1 m_has_word
theorem sc_has_word : FnScope ["thing"] ["thing"] (defScope (topS 39)) := ⟨rfl, rfl, rfl, by decide +kernel, rfl, by decide +kernel, by decide +kernel⟩
theorem ok_has_word (fx : Fx w K mg) : Fd P w K mg base 1 "has_word" 1 F_has_word :=
  fd_of (k := 0) fx.f_has_word sc_has_word rfl (fun _ _ _ _ _ _ us hl => match us, hl with | [_], _ => rfl) fun f cdv A outer s H E hr =>
  (sx_one (sx_ret (px_and (px_isi kt_tuple (by decide +kernel) fx.b_tuple fx.b_isinstance (px_var 0)) (px_and (px_ne (room_u hr) (px_var 0) (px_tup xa_nil)) (px_and (px_isi kt_str (by decide +kernel) fx.b_str fx.b_isinstance (px_ix fx.hG (room_u hr) (px_var 0) px_int)) (px_one (px_in fx.hG (room_u hr) (px_ix fx.hG (room_u hr) (px_var 0) px_int) (px_g fx.c_FORMS))))))))
noncomputable def m_ends_in : S8 := (sret (mlc2 (isrc (mvar 0)) (gtup 2 (gcons (gset 2) (gcons (gset 3) gnil))) (mtb (mbin gEq (mbin (gIx G) (mvar 2) (mret (.int 0))) (mvar 1))) (isrc (msl (mvar 2) (some (mret (.int 1))) none)) (gset 4) (mtb (m1 (gIsI "int") (mvar 4))) (mvar 4) [2, 3, 4] [4]))
noncomputable def F_ends_in : FF := runF 5 m_ends_in
theorem sc_ends_in : FnScope ["rows", "word", "deed", "nexts", "part"] ["rows", "word"] (defScope (topS 49)) := ⟨rfl, rfl, rfl, by decide +kernel, rfl, by decide +kernel, by decide +kernel⟩
theorem ok_ends_in (fx : Fx w K mg) : Fd P w K mg base 1 "ends_in" 2 F_ends_in :=
  fd_of (k := 0) fx.f_ends_in sc_ends_in rfl (fun _ _ _ _ _ _ us hl => match us, hl with | [_, _], _ => rfl) fun f cdv A outer s H E hr =>
  (sx_one (sx_ret (px_lc2 (vs1 := [4]) rfl sc_ends_in.nd (pix_seq (px_var 0)) (blkOk_by (own := [("deed", 2), ("nexts", 3), ("part", 4)]) (by rfl)) (fun _ _ _ _ _ => (pgx_tup rfl (pgx_cons (pgx_name 2 sc_ends_in.nd) (pgx_cons (pgx_name 3 sc_ends_in.nd) pgx_nil)))) (fun _ _ _ _ _ => (ptx_one (pt_eq8 (room_u hr) (px_ix fx.hG (room_u hr) (px_var 2) px_int) (px_var 1)))) (fun _ _ _ _ _ => (pix_seq (px_sl1 (px_var 2) px_int))) (fun _ _ _ _ _ => (pgx_name 4 sc_ends_in.nd)) (fun _ _ _ _ _ => (ptx_one (pt_val8 (px_isi kt_int (by decide +kernel) fx.b_int fx.b_isinstance (px_var 4))))) (fun _ _ _ _ _ => (px_var 4)))))
noncomputable def m_used_by : S8 := (sret (mlc (isrc (mget2' G (mret c_USED) (mbin (gIx G) (mvar 0) (mret (.int 0))) (mtup mnil))) (gset 1) tyes (mbin (gIx G) (mvar 0) (mvar 1)) [1]))
noncomputable def F_used_by : FF := runF 2 m_used_by
theorem sc_used_by : FnScope ["deed", "at"] ["deed"] (defScope (topS 56)) := ⟨rfl, rfl, rfl, by decide +kernel, rfl, by decide +kernel, by decide +kernel⟩
theorem ok_used_by (fx : Fx w K mg) : Fd P w K mg base 1 "used_by" 1 F_used_by :=
  fd_of (k := 0) fx.f_used_by sc_used_by rfl (fun _ _ _ _ _ _ us hl => match us, hl with | [_], _ => rfl) fun f cdv A outer s H E hr =>
  (sx_one (sx_ret (px_lc rfl sc_used_by.nd (pix_seq (px_get2 fx.hG (room_u hr) (px_g fx.c_USED) (px_ix fx.hG (room_u hr) (px_var 0) px_int) (px_tup xa_nil) ⟨rfl, rfl, rfl, rfl⟩)) (blkOk_by (own := [("at", 1)]) (by rfl)) (fun _ _ _ _ _ => (pgx_name 1 sc_used_by.nd)) (fun _ _ _ _ _ => ptx_nil) (fun _ _ _ _ _ => (px_ix fx.hG (room_u hr) (px_var 0) (px_var 1))))))
noncomputable def m_filled_by : S8 := (sret (vif (mtb (mbin (gIn G) (mbin (gIx G) (mvar 0) (mret (.int 0))) (mret c_FILLED))) (mbin (gIx G) (mvar 0) (mbin (gIx G) (mret c_FILLED) (mbin (gIx G) (mvar 0) (mret (.int 0))))) (mret .non)))
noncomputable def F_filled_by : FF := runF 1 m_filled_by
theorem sc_filled_by : FnScope ["deed"] ["deed"] (defScope (topS 57)) := ⟨rfl, rfl, rfl, by decide +kernel, rfl, by decide +kernel, by decide +kernel⟩
theorem ok_filled_by (fx : Fx w K mg) : Fd P w K mg base 1 "filled_by" 1 F_filled_by :=
  fd_of (k := 0) fx.f_filled_by sc_filled_by rfl (fun _ _ _ _ _ _ us hl => match us, hl with | [_], _ => rfl) fun f cdv A outer s H E hr =>
  (sx_one (sx_ret (px_if (pt_in8 fx.hG (room_u hr) (px_ix fx.hG (room_u hr) (px_var 0) px_int) (px_g fx.c_FILLED)) (px_ix fx.hG (room_u hr) (px_var 0) (px_ix fx.hG (room_u hr) (px_g fx.c_FILLED) (px_ix fx.hG (room_u hr) (px_var 0) px_int))) px_non)))
noncomputable def m_spent_by : S8 := (sret (mbin (gIx G) (mvar 0) (mbin (gIx G) (mret c_SPENT) (mbin (gIx G) (mvar 0) (mret (.int 0))))))
noncomputable def F_spent_by : FF := runF 1 m_spent_by
theorem sc_spent_by : FnScope ["deed"] ["deed"] (defScope (topS 58)) := ⟨rfl, rfl, rfl, by decide +kernel, rfl, by decide +kernel, by decide +kernel⟩
theorem ok_spent_by (fx : Fx w K mg) : Fd P w K mg base 1 "spent_by" 1 F_spent_by :=
  fd_of (k := 0) fx.f_spent_by sc_spent_by rfl (fun _ _ _ _ _ _ us hl => match us, hl with | [_], _ => rfl) fun f cdv A outer s H E hr =>
  (sx_one (sx_ret (px_ix fx.hG (room_u hr) (px_var 0) (px_ix fx.hG (room_u hr) (px_g fx.c_SPENT) (px_ix fx.hG (room_u hr) (px_var 0) px_int)))))
noncomputable def m__law_cell_at : S8 := (sseq (sif (mtb (mbin gLt (mvar 1) (m1 gLen (mvar 0)))) (sret (mbin (gIx G) (mvar 0) (mvar 1))) snext) (sret (mret (.int 0))))
noncomputable def F__law_cell_at : FF := runF 2 m__law_cell_at
theorem sc__law_cell_at : FnScope ["_law_script", "_law_k"] ["_law_script", "_law_k"] (defScope (topS 70)) := ⟨rfl, rfl, rfl, by decide +kernel, rfl, by decide +kernel, by decide +kernel⟩
theorem ok__law_cell_at (fx : Fx w K mg) : Fd P w K mg base 1 "_law_cell_at" 2 F__law_cell_at :=
  fd_of (k := 0) fx.f__law_cell_at sc__law_cell_at rfl (fun _ _ _ _ _ _ us hl => match us, hl with | [_, _], _ => rfl) fun f cdv A outer s H E hr =>
  (sx_cons (sx_if (pt_lt8 (px_var 1) (px_len fx.b_len (px_var 0))) (sx_one (sx_ret (px_ix fx.hG (room_u hr) (px_var 0) (px_var 1)))) sx_nil) (sx_one (sx_ret px_int)))
noncomputable def m__law_choice : S8 := (sseq (sif (mtb (mbin gGt (mbin (gIx G) (mvw 0) (mret (.int 0))) (mret (.int 0)))) (sseq (sset 2 (mbin gMod (mbin (gIx G) (mvw 0) (mret (.int 0))) (mvar 1))) (sseq (ssub 0 (mret (.int 0)) (mbin gFdiv (mbin (gIx G) (mvw 0) (mret (.int 0))) (mvar 1))) (sret (mvar 2)))) snext) (sseq (ssub 0 (mret (.int 2)) (mbin gAdd (mbin (gIx G) (mvw 0) (mret (.int 2))) (mret (.int 1)))) (sseq (ssub 0 (mret (.int 1)) (mbin gMod (mbin gAdd (mbin gAdd (mbin gMul (mbin (gIx G) (mvw 0) (mret (.int 1))) (mret (.int 48271))) (mret (.int 29))) (mbin (gIx G) (mvw 0) (mret (.int 2)))) (mret (.int 2147483647)))) (sseq (sset 3 (mbin gMod (mbin gAdd (mbin gAdd (mbin gMul (mbin (gIx G) (mvw 0) (mret (.int 1))) (mbin (gIx G) (mvw 0) (mret (.int 1)))) (mbin gMul (mret (.int 39373)) (mbin (gIx G) (mvw 0) (mret (.int 1))))) (mret (.int 7))) (mret (.int 2147483629)))) (sseq (sset 3 (mbin gMod (mbin gAdd (mbin gMul (mvar 3) (mvar 3)) (mbin gMul (mret (.int 50021)) (mvar 3))) (mret (.int 2147483587)))) (sret (mbin gMod (mbin gFdiv (mvar 3) (mret (.int 8))) (mvar 1))))))))
noncomputable def F__law_choice : FF := runF 4 m__law_choice
theorem sc__law_choice : FnScope ["_law_state_here", "_law_many", "_law_found", "_law_mixed"] ["_law_state_here", "_law_many"] (defScope (topS 72)) := ⟨rfl, rfl, rfl, by decide +kernel, rfl, by decide +kernel, by decide +kernel⟩
theorem ok__law_choice (fx : Fx w K mg) : Fd P w K mg base 1 "_law_choice" 2 F__law_choice :=
  fd_of (k := 0) fx.f__law_choice sc__law_choice rfl (fun _ _ _ _ _ _ us hl => match us, hl with | [_, _], _ => rfl) fun f cdv A outer s H E hr =>
  (sx_cons (sx_if (pt_gt8 (px_ix fx.hG (room_u hr) (px_vw 0) px_int) px_int) (sx_cons (sx_set sc__law_choice.nd (px_mod (px_ix fx.hG (room_u hr) (px_vw 0) px_int) (px_var 1))) (sx_cons (sx_sub (room_u hr) (px_fdiv (px_ix fx.hG (room_u hr) (px_vw 0) px_int) (px_var 1)) px_int) (sx_one (sx_ret (px_var 2))))) sx_nil) (sx_cons (sx_sub (room_u hr) (px_add (px_ix fx.hG (room_u hr) (px_vw 0) px_int) px_int) px_int) (sx_cons (sx_sub (room_u hr) (px_mod (px_add (px_add (px_mul (px_ix fx.hG (room_u hr) (px_vw 0) px_int) px_int) px_int) (px_ix fx.hG (room_u hr) (px_vw 0) px_int)) px_int) px_int) (sx_cons (sx_set sc__law_choice.nd (px_mod (px_add (px_add (px_mul (px_ix fx.hG (room_u hr) (px_vw 0) px_int) (px_ix fx.hG (room_u hr) (px_vw 0) px_int)) (px_mul px_int (px_ix fx.hG (room_u hr) (px_vw 0) px_int))) px_int) px_int)) (sx_cons (sx_set sc__law_choice.nd (px_mod (px_add (px_mul (px_var 3) (px_var 3)) (px_mul px_int (px_var 3))) px_int)) (sx_one (sx_ret (px_mod (px_fdiv (px_var 3) px_int) (px_var 1)))))))))
noncomputable def m__law_marked : S8 := (sret (mbin (gIn G) (mbin (gIx G) (mvar 0) (mret (.int 0))) (mtup (mcons (mret (.str "let")) (mcons (mret (.str "hang")) (mcons (mret (.str "pick")) (mcons (mret (.str "send")) mnil)))))))
noncomputable def F__law_marked : FF := runF 1 m__law_marked
theorem sc__law_marked : FnScope ["_law_deed"] ["_law_deed"] (defScope (topS 74)) := ⟨rfl, rfl, rfl, by decide +kernel, rfl, by decide +kernel, by decide +kernel⟩
theorem ok__law_marked (fx : Fx w K mg) : Fd P w K mg base 1 "_law_marked" 1 F__law_marked :=
  fd_of (k := 0) fx.f__law_marked sc__law_marked rfl (fun _ _ _ _ _ _ us hl => match us, hl with | [_], _ => rfl) fun f cdv A outer s H E hr =>
  (sx_one (sx_ret (px_in fx.hG (room_u hr) (px_ix fx.hG (room_u hr) (px_var 0) px_int) (px_tup (xa_cons px_str (xa_cons px_str (xa_cons px_str (xa_cons px_str xa_nil))))))))
noncomputable def m__law_uses : S8 := (sseq (sset 1 (mbin (gIx G) (mvar 0) (mret (.int 0)))) (sseq (sif (mtb (mbin (gIn G) (mvar 1) (mtup (mcons (mret (.str "let")) (mcons (mret (.str "pick")) (mcons (mret (.str "get")) (mcons (mret (.str "sort")) (mcons (mret (.str "send")) mnil)))))))) (sretT (tmlst (mcons (mbin (gIx G) (mvar 0) (mret (.int 2))) mnil))) snext) (sseq (sif (mtb (mbin (gIn G) (mvar 1) (mtup (mcons (mret (.str "add")) (mcons (mret (.str "put")) (mcons (mret (.str "tie")) (mcons (mret (.str "show")) mnil))))))) (sretT (tmlst (mcons (mbin (gIx G) (mvar 0) (mret (.int 1))) mnil))) snext) (sret (vif (mtb (mbin gEq (mvar 1) (mret (.str "hang")))) (mlst (mcons (mbin (gIx G) (mvar 0) (mret (.int 1))) (mcons (mbin (gIx G) (mvar 0) (mret (.int 4))) mnil))) (mlst mnil))))))
noncomputable def F__law_uses : FF := runF 2 m__law_uses
theorem sc__law_uses : FnScope ["_law_deed", "_law_word"] ["_law_deed"] (defScope (topS 75)) := ⟨rfl, rfl, rfl, by decide +kernel, rfl, by decide +kernel, by decide +kernel⟩
theorem ok__law_uses (fx : Fx w K mg) : Fd P w K mg base 1 "_law_uses" 1 F__law_uses :=
  fd_of (k := 0) fx.f__law_uses sc__law_uses rfl (fun _ _ _ _ _ _ us hl => match us, hl with | [_], _ => rfl) fun f cdv A outer s H E hr =>
  (sx_cons (sx_set sc__law_uses.nd (px_ix fx.hG (room_u hr) (px_var 0) px_int)) (sx_cons (sx_if (pt_in8 fx.hG (room_u hr) (px_var 1) (px_tup (xa_cons px_str (xa_cons px_str (xa_cons px_str (xa_cons px_str (xa_cons px_str xa_nil))))))) (sx_one (sx_retT (pxt_lst (xa_cons (px_ix fx.hG (room_u hr) (px_var 0) px_int) xa_nil)))) sx_nil) (sx_cons (sx_if (pt_in8 fx.hG (room_u hr) (px_var 1) (px_tup (xa_cons px_str (xa_cons px_str (xa_cons px_str (xa_cons px_str xa_nil)))))) (sx_one (sx_retT (pxt_lst (xa_cons (px_ix fx.hG (room_u hr) (px_var 0) px_int) xa_nil)))) sx_nil) (sx_one (sx_ret (px_if (pt_eq8 (room_u hr) (px_var 1) px_str) (px_lst (xa_cons (px_ix fx.hG (room_u hr) (px_var 0) px_int) (xa_cons (px_ix fx.hG (room_u hr) (px_var 0) px_int) xa_nil))) (px_lst xa_nil)))))))
noncomputable def m__law_fills : S8 := (sret (vif (mtb (mbin (gIn G) (mbin (gIx G) (mvar 0) (mret (.int 0))) (mtup (mcons (mret (.str "new")) (mcons (mret (.str "let")) (mcons (mret (.str "pick")) (mcons (mret (.str "take")) mnil))))))) (mbin (gIx G) (mvar 0) (mret (.int 1))) (mret (.str ""))))
noncomputable def F__law_fills : FF := runF 1 m__law_fills
theorem sc__law_fills : FnScope ["_law_deed"] ["_law_deed"] (defScope (topS 76)) := ⟨rfl, rfl, rfl, by decide +kernel, rfl, by decide +kernel, by decide +kernel⟩
theorem ok__law_fills (fx : Fx w K mg) : Fd P w K mg base 1 "_law_fills" 1 F__law_fills :=
  fd_of (k := 0) fx.f__law_fills sc__law_fills rfl (fun _ _ _ _ _ _ us hl => match us, hl with | [_], _ => rfl) fun f cdv A outer s H E hr =>
  (sx_one (sx_ret (px_if (pt_in8 fx.hG (room_u hr) (px_ix fx.hG (room_u hr) (px_var 0) px_int) (px_tup (xa_cons px_str (xa_cons px_str (xa_cons px_str (xa_cons px_str xa_nil)))))) (px_ix fx.hG (room_u hr) (px_var 0) px_int) px_str)))
noncomputable def m__law_spends : S8 := (sret (vif (mtb (mbin gEq (mbin (gIx G) (mvar 0) (mret (.int 0))) (mret (.str "hang")))) (mbin (gIx G) (mvar 0) (mret (.int 4))) (mbin (gIx G) (mvar 0) (mret (.int 2)))))
noncomputable def F__law_spends : FF := runF 1 m__law_spends
theorem sc__law_spends : FnScope ["_law_deed"] ["_law_deed"] (defScope (topS 77)) := ⟨rfl, rfl, rfl, by decide +kernel, rfl, by decide +kernel, by decide +kernel⟩
theorem ok__law_spends (fx : Fx w K mg) : Fd P w K mg base 1 "_law_spends" 1 F__law_spends :=
  fd_of (k := 0) fx.f__law_spends sc__law_spends rfl (fun _ _ _ _ _ _ us hl => match us, hl with | [_], _ => rfl) fun f cdv A outer s H E hr =>
  (sx_one (sx_ret (px_if (pt_eq8 (room_u hr) (px_ix fx.hG (room_u hr) (px_var 0) px_int) px_str) (px_ix fx.hG (room_u hr) (px_var 0) px_int) (px_ix fx.hG (room_u hr) (px_var 0) px_int))))
noncomputable def m_is_within : S8 := (sret (vand (mcall 1 F_is_whole (mcons (mvar 0) mnil)) (mchain gLe gLe (mvar 1) (mvar 0) (mvar 2))))
noncomputable def F_is_within : FF := runF 3 m_is_within
theorem sc_is_within : FnScope ["thing", "least", "most"] ["thing", "least", "most"] (defScope (topS 8)) := ⟨rfl, rfl, rfl, by decide +kernel, rfl, by decide +kernel, by decide +kernel⟩
theorem ok_is_within (fx : Fx w K mg) : Fd P w K mg base 2 "is_within" 3 F_is_within :=
  fd_of (k := 1) fx.f_is_within sc_is_within rfl (fun _ _ _ _ _ _ us hl => match us, hl with | [_, _, _], _ => rfl) fun f cdv A outer s H E hr =>
  (sx_one (sx_ret (px_and (px_call ((ok_is_whole fx).mono (by decide)) hr (takes_of rfl rfl rfl rfl) (xa_cons (px_var 0) xa_nil)) (px_one (px_chain op_le s_le op_le s_le (px_var 1) (px_var 0) (px_var 2))))))
noncomputable def w1_way_by : S8 := (sseq (saug (fun i j => i - j) 5 (mret (.int 1))) (sseq (sset 6 (m1 gMin (mlc (isrc (mbin (gIx G) (mvar 0) (mvar 6))) (gset 9) (mtb (mbin gEq (mget2' G (mvar 3) (mvar 9) (m1 gNeg (mret (.int 1)))) (mvar 5))) (mvar 9) [9]))) (sapp 7 (mvar 6))))
noncomputable def m_way_by : S8 := (sseq (sset 3 (mcall 2 F_ahead_of (mcons (mvar 0) (mcons (mvar 2) mnil)))) (sseq (sset 4 (mlc (isrc (mvar 1)) (gset 8) (mtb (mbin (gIn G) (mvar 8) (mvar 3))) (mtup (mcons (mbin (gIx G) (mvar 3) (mvar 8)) (mcons (mvar 8) mnil))) [8])) (sseq (sif (mtb (mbin gEq (mvar 4) (mlst mnil))) (sret (mret .non)) snext) (sseq (sasg (gtup 2 (gcons (gset 5) (gcons (gset 6) gnil))) (m1 gMin (mvar 4))) (sseq (ssetT 7 (tmlst (mcons (mvar 6) mnil))) (sseq (swhile (mtb (mbin gGt (mvar 5) (mret (.int 0)))) w1_way_by) (sret (m1 gTuple (mvw 7)))))))))
noncomputable def F_way_by : FF := runF 10 m_way_by
theorem sc_way_by : FnScope ["chart", "starts", "goals", "far", "some", "many", "here", "way", "start", "other"] ["chart", "starts", "goals"] (defScope (topS 18)) := ⟨rfl, rfl, rfl, by decide +kernel, rfl, by decide +kernel, by decide +kernel⟩
theorem ok_way_by (fx : Fx w K mg) : Fd P w K mg base 2 "way_by" 3 F_way_by :=
  fd_of (k := 1) fx.f_way_by sc_way_by rfl (fun _ _ _ _ _ _ us hl => match us, hl with | [_, _, _], _ => rfl) fun f cdv A outer s H E hr =>
  (sx_cons (sx_set sc_way_by.nd (px_call ((ok_ahead_of fx).mono (by decide)) hr (takes_of rfl rfl rfl rfl) (xa_cons (px_var 0) (xa_cons (px_var 2) xa_nil)))) (sx_cons (sx_setLc rfl sc_way_by.nd (pix_seq (px_var 1)) (blkOk_by (own := [("start", 8)]) (by rfl)) (fun _ _ _ _ _ => (pgx_name 8 sc_way_by.nd)) (fun _ _ _ _ _ => (ptx_one (pt_in8 fx.hG (room_u hr) (px_var 8) (px_var 3)))) (fun _ _ _ _ _ => (px_tup (xa_cons (px_ix fx.hG (room_u hr) (px_var 3) (px_var 8)) (xa_cons (px_var 8) xa_nil))))) (sx_cons (sx_if (pt_eq8 (room_u hr) (px_var 4) (px_lst xa_nil)) (sx_one (sx_ret px_non)) sx_nil) (sx_cons (sx_asg (px_min rfl (room_u hr) fx.b_min (px_var 4)) (pgx_tup rfl (pgx_cons (pgx_name 5 sc_way_by.nd) (pgx_cons (pgx_name 6 sc_way_by.nd) pgx_nil)))) (sx_cons (sx_setT sc_way_by.nd (pxt_lst (xa_cons (px_var 6) xa_nil))) (sx_cons (sx_while (passes_of rfl) (pt_gt8 (px_var 5) px_int) (sx_cons (sx_aug sc_way_by.nd ip_sub px_int) (sx_cons (sx_set sc_way_by.nd (px_min rfl (room_u hr) fx.b_min (px_lc rfl sc_way_by.nd (pix_seq (px_ix fx.hG (room_u hr) (px_var 0) (px_var 6))) (blkOk_by (own := [("other", 9)]) (by rfl)) (fun _ _ _ _ _ => (pgx_name 9 sc_way_by.nd)) (fun _ _ _ _ _ => (ptx_one (pt_eq8 (room_u hr) (px_get2 fx.hG (room_u hr) (px_var 3) (px_var 9) (px_neg px_int) ⟨rfl, rfl, rfl, rfl⟩) (px_var 5)))) (fun _ _ _ _ _ => (px_var 9))))) (sx_one (sx_app (px_var 6)))))) (sx_one (sx_ret (px_totuple fx.b_tuple (px_vw 7))))))))))
noncomputable def m_rows_behind : S8 := (sseq (sasg (gtup 2 (gcons (gset 2) (gcons (gset 3) gnil))) (mvar 0)) (sret (vif (mtb (mbin gEq (mcall 1 F_filled_by (mcons (mvar 2) mnil)) (mvar 1))) (mtup mnil) (m1 gTuple (msset (isrc (mvar 3)) (gset 4) (mtb (mbin gGe (mvar 4) (mret (.int 0)))) (mvar 4) [4])))))
noncomputable def F_rows_behind : FF := runF 5 m_rows_behind
theorem sc_rows_behind : FnScope ["row", "name", "deed", "nexts", "at"] ["row", "name"] (defScope (topS 59)) := ⟨rfl, rfl, rfl, by decide +kernel, rfl, by decide +kernel, by decide +kernel⟩
theorem ok_rows_behind (fx : Fx w K mg) : Fd P w K mg base 2 "rows_behind" 2 F_rows_behind :=
  fd_of (k := 1) fx.f_rows_behind sc_rows_behind rfl (fun _ _ _ _ _ _ us hl => match us, hl with | [_, _], _ => rfl) fun f cdv A outer s H E hr =>
  (sx_cons (sx_asg (px_var 0) (pgx_tup rfl (pgx_cons (pgx_name 2 sc_rows_behind.nd) (pgx_cons (pgx_name 3 sc_rows_behind.nd) pgx_nil)))) (sx_one (sx_ret (px_if (pt_eq8 (room_u hr) (px_call ((ok_filled_by fx).mono (by decide)) hr (takes_of rfl rfl rfl rfl) (xa_cons (px_var 2) xa_nil)) (px_var 1)) (px_tup xa_nil) (px_totuple fx.b_tuple (px_sset rfl sc_rows_behind.nd fx.b_sorted (pix_seq (px_var 3)) (blkOk_by (own := [("at", 4)]) (by rfl)) (fun _ _ _ _ _ => (pgx_name 4 sc_rows_behind.nd)) (fun _ _ _ _ _ => (ptx_one (pt_ge8 (px_var 4) px_int))) (fun _ _ _ _ _ => (px_var 4))))))))
noncomputable def m__law_state : S8 := (sseq (sset 2 (mcall 2 F__law_cell_at (mcons (mvar 0) (mcons (mvar 1) mnil)))) (sretT (tmlst (mcons (mN gMax2 (mcons (mret (.int 0)) (mcons (mbin gSub (mvar 2) (mbin gPow (mret (.int 10)) (mret (.int 18)))) mnil))) (mcons (mbin gAdd (mbin gMod (mvar 2) (mret (.int 2147483629))) (mret (.int 1))) (mcons (mret (.int 0)) mnil))))))
noncomputable def F__law_state : FF := runF 3 m__law_state
theorem sc__law_state : FnScope ["_law_script", "_law_k", "_law_cell"] ["_law_script", "_law_k"] (defScope (topS 71)) := ⟨rfl, rfl, rfl, by decide +kernel, rfl, by decide +kernel, by decide +kernel⟩
theorem ok__law_state (fx : Fx w K mg) : Fd P w K mg base 2 "_law_state" 2 F__law_state :=
  fd_of (k := 1) fx.f__law_state sc__law_state rfl (fun _ _ _ _ _ _ us hl => match us, hl with | [_, _], _ => rfl) fun f cdv A outer s H E hr =>
  (sx_cons (sx_set sc__law_state.nd (px_call ((ok__law_cell_at fx).mono (by decide)) hr (takes_of rfl rfl rfl rfl) (xa_cons (px_var 0) (xa_cons (px_var 1) xa_nil)))) (sx_one (sx_retT (pxt_lst (xa_cons (px_max2 rfl fx.b_max (xa_cons px_int (xa_cons (px_sub (px_var 2) (px_pow px_int px_int)) xa_nil))) (xa_cons (px_add (px_mod (px_var 2) px_int) px_int) (xa_cons px_int xa_nil)))))))
noncomputable def m__law_simple : S8 := (sseq (sasg (gtup 2 (gcons (gset 3) (gcons (gset 4) gnil))) (mtup (mcons (mlst (mcons (mret (.str "a")) (mcons (mret (.str "b")) (mcons (mret (.str "c")) (mcons (mret (.str "count")) mnil))))) (mcons (mlst (mcons (mret (.str "G")) (mcons (mret (.str "H")) (mcons (mret (.str "Kit")) mnil)))) mnil)))) (sseq (sasg (gtup 3 (gcons (gset 5) (gcons (gset 6) (gcons (gset 7) gnil)))) (mlc (irange1 (mret (.int 3))) (gset 14) tyes (mbin (gIx G) (mvar 3) (fz (tcall 2 F__law_choice (mcons (mvar 0) (mcons (mret (.int 4)) mnil))))) [14])) (sseq (spar 8 9 (mcons (fz (tcall 2 F__law_choice (mcons (mvar 0) (mcons (mret (.int 3)) mnil)))) (mcons (fz (tcall 2 F__law_choice (mcons (mvar 0) (mcons (mret (.int 3)) mnil)))) mnil))) (sseq (spar 10 11 (mcons (mbin (gIx G) (mvar 4) (mvar 8)) (mcons (mbin (gIx G) (mvar 4) (mbin gMod (mbin gAdd (mbin gAdd (mvar 8) (mret (.int 1))) (fz (tcall 2 F__law_choice (mcons (mvar 0) (mcons (mret (.int 2)) mnil))))) (mret (.int 3)))) mnil))) (sseq (sset 12 (fz (tcall 2 F__law_choice (mcons (mvar 0) (mcons (mret (.int 19)) mnil))))) (sseq (sif (mtb (mbin gLt (mvar 12) (mret (.int 3)))) (sret (mtup (mcons (mret (.str "num")) (mcons (mvar 5) (mcons (mbin (gIx G) (mlst (mcons (mret (.int 0)) (mcons (mret (.int 1)) (mcons (mret (.int 2)) (mcons (m1 gNeg (mret (.int 1))) (mcons (mret (.int 3)) (mcons (mret (.int 9999)) (mcons (mbin gSub (fz (tcall 2 F__law_choice (mcons (mvar 0) (mcons (mret (.int 19999)) mnil)))) (mret (.int 9999))) mnil)))))))) (fz (tcall 2 F__law_choice (mcons (mvar 0) (mcons (mret (.int 7)) mnil))))) mnil))))) snext) (sseq (sif (mtb (mbin gEq (mvar 12) (mret (.int 3)))) (sret (mtup (mcons (mret (.str "sum")) (mcons (mvar 5) (mcons (mvar 6) (mcons (mbin (gIx G) (mret (.str "+-*<=")) (fz (tcall 2 F__law_choice (mcons (mvar 0) (mcons (mret (.int 5)) mnil))))) (mcons (mvar 7) mnil))))))) snext) (sseq (sif (tand (mtb (mbin gEq (mvar 12) (mret (.int 16)))) (mtb (mbin gNe (mvar 1) (mlst mnil)))) (sret (mtup (mcons (mret (.str "send")) (mcons (mbin (gIx G) (mvar 1) (fz (tcall 2 F__law_choice (mcons (mvar 0) (mcons (m1 gLen (mvar 1)) mnil))))) (mcons (mvar 10) mnil))))) snext) (sseq (sif (tand (mtb (mbin gEq (mvar 12) (mret (.int 17)))) (mtb (mbin gNe (mvar 2) (mlst mnil)))) (sret (mtup (mcons (mret (.str "take")) (mcons (mvar 10) (mcons (mbin (gIx G) (mvar 2) (fz (tcall 2 F__law_choice (mcons (mvar 0) (mcons (m1 gLen (mvar 2)) mnil))))) mnil))))) snext) (sseq (sset 13 (mlst (mcons (mtup (mcons (mret (.str "new")) (mcons (mvar 10) mnil))) (mcons (mtup (mcons (mret (.str "let")) (mcons (mvar 10) (mcons (mvar 11) mnil)))) (mcons (mtup (mcons (mret (.str "add")) (mcons (mvar 10) (mcons (mvar 5) mnil)))) (mcons (mtup (mcons (mret (.str "add")) (mcons (mvar 10) (mcons (mvar 6) mnil)))) (mcons (mtup (mcons (mret (.str "put")) (mcons (mvar 10) (mcons (mvar 5) (mcons (mvar 9) (mcons (mvar 6) mnil)))))) (mcons (mtup (mcons (mret (.str "tie")) (mcons (mvar 10) (mcons (mvar 5) (mcons (mvar 9) (mcons (mvar 6) mnil)))))) mnil)))))))) (sseq (sset 13 (mbin gAdd (mvar 13) (mlst (mcons (mtup (mcons (mret (.str "hang")) (mcons (mvar 10) (mcons (mvar 5) (mcons (mvar 9) (mcons (mvar 11) mnil)))))) (mcons (mtup (mcons (mret (.str "hang")) (mcons (mvar 10) (mcons (mvar 6) (mcons (mvar 9) (mcons (mvar 11) mnil)))))) (mcons (mtup (mcons (mret (.str "get")) (mcons (mvar 5) (mcons (mvar 10) (mcons (mvar 6) (mcons (mvar 9) mnil)))))) (mcons (mtup (mcons (mret (.str "sort")) (mcons (mvar 5) (mcons (mvar 10) (mcons (mvar 6) (mcons (mvar 9) mnil)))))) mnil))))))) (sseq (sset 13 (mbin gAdd (mvar 13) (mlst (mcons (mtup (mcons (mret (.str "pick")) (mcons (mvar 10) (mcons (mvar 11) (mcons (mvar 5) (mcons (mvar 9) mnil)))))) (mcons (mtup (mcons (mret (.str "pick")) (mcons (mvar 10) (mcons (mvar 10) (mcons (mvar 5) (mcons (mvar 9) mnil)))))) (mcons (mtup (mcons (mret (.str "tell")) (mcons (mvar 5) mnil))) (mcons (mtup (mcons (mret (.str "show")) (mcons (mvar 10) mnil))) (mcons (mtup (mcons (mret (.str "show")) (mcons (mvar 11) mnil))) mnil)))))))) (sret (mbin (gIx G) (mvar 13) (mbin gMod (mbin gSub (mvar 12) (mret (.int 4))) (mret (.int 15)))))))))))))))))
noncomputable def F__law_simple : FF := runF 15 m__law_simple
theorem sc__law_simple : FnScope ["_law_state_here", "_law_sends", "_law_takes", "_law_names", "_law_graphs", "_law_a", "_law_b", "_law_c", "_law_at", "_law_k", "_law_g", "_law_h", "_law_kind", "_law_rows_here", "_law_turn"] ["_law_state_here", "_law_sends", "_law_takes"] (defScope (topS 73)) := ⟨rfl, rfl, rfl, by decide +kernel, rfl, by decide +kernel, by decide +kernel⟩
theorem ok__law_simple (fx : Fx w K mg) : Fd P w K mg base 2 "_law_simple" 3 F__law_simple :=
  fd_of (k := 1) fx.f__law_simple sc__law_simple rfl (fun _ _ _ _ _ _ us hl => match us, hl with | [_, _, _], _ => rfl) fun f cdv A outer s H E hr =>
  (sx_cons (sx_asg (px_tup (xa_cons (px_lst (xa_cons px_str (xa_cons px_str (xa_cons px_str (xa_cons px_str xa_nil))))) (xa_cons (px_lst (xa_cons px_str (xa_cons px_str (xa_cons px_str xa_nil)))) xa_nil))) (pgx_tup rfl (pgx_cons (pgx_name 3 sc__law_simple.nd) (pgx_cons (pgx_name 4 sc__law_simple.nd) pgx_nil)))) (sx_cons (sx_asg (px_lc rfl sc__law_simple.nd (pix_range1 fx.b_range px_int) (blkOk_by (own := [("_law_turn", 14)]) (by rfl)) (fun _ _ _ _ _ => (pgx_name 14 sc__law_simple.nd)) (fun _ _ _ _ _ => (ptx_loose ptx_nil)) (fun _ _ _ _ _ => (px_ix fx.hG (room_u hr) (px_var 3) (px_fz (pxt_call ((ok__law_choice fx).mono (by decide)) hr takes0 (xa_cons (px_var 0) (xa_cons px_int xa_nil))))))) (pgx_tup rfl (pgx_cons (pgx_name 5 sc__law_simple.nd) (pgx_cons (pgx_name 6 sc__law_simple.nd) (pgx_cons (pgx_name 7 sc__law_simple.nd) pgx_nil))))) (sx_cons (sx_par rfl sc__law_simple.nd (xa_cons (px_fz (pxt_call ((ok__law_choice fx).mono (by decide)) hr (takes_of rfl rfl rfl rfl) (xa_cons (px_var 0) (xa_cons px_int xa_nil)))) (xa_cons (px_fz (pxt_call ((ok__law_choice fx).mono (by decide)) hr (takes_of rfl rfl rfl rfl) (xa_cons (px_var 0) (xa_cons px_int xa_nil)))) xa_nil))) (sx_cons (sx_par rfl sc__law_simple.nd (xa_cons (px_ix fx.hG (room_u hr) (px_var 4) (px_var 8)) (xa_cons (px_ix fx.hG (room_u hr) (px_var 4) (px_mod (px_add (px_add (px_var 8) px_int) (px_fz (pxt_call ((ok__law_choice fx).mono (by decide)) hr (takes_of rfl rfl rfl rfl) (xa_cons (px_var 0) (xa_cons px_int xa_nil))))) px_int)) xa_nil))) (sx_cons (sx_set sc__law_simple.nd (px_fz (pxt_call ((ok__law_choice fx).mono (by decide)) hr (takes_of rfl rfl rfl rfl) (xa_cons (px_var 0) (xa_cons px_int xa_nil))))) (sx_cons (sx_if (pt_lt8 (px_var 12) px_int) (sx_one (sx_ret (px_tup (xa_cons px_str (xa_cons (px_var 5) (xa_cons (px_ix fx.hG (room_u hr) (px_lst (xa_cons px_int (xa_cons px_int (xa_cons px_int (xa_cons (px_neg px_int) (xa_cons px_int (xa_cons px_int (xa_cons (px_sub (px_fz (pxt_call ((ok__law_choice fx).mono (by decide)) hr (takes_of rfl rfl rfl rfl) (xa_cons (px_var 0) (xa_cons px_int xa_nil)))) px_int) xa_nil)))))))) (px_fz (pxt_call ((ok__law_choice fx).mono (by decide)) hr (takes_of rfl rfl rfl rfl) (xa_cons (px_var 0) (xa_cons px_int xa_nil))))) xa_nil)))))) sx_nil) (sx_cons (sx_if (pt_eq8 (room_u hr) (px_var 12) px_int) (sx_one (sx_ret (px_tup (xa_cons px_str (xa_cons (px_var 5) (xa_cons (px_var 6) (xa_cons (px_ix fx.hG (room_u hr) px_str (px_fz (pxt_call ((ok__law_choice fx).mono (by decide)) hr (takes_of rfl rfl rfl rfl) (xa_cons (px_var 0) (xa_cons px_int xa_nil))))) (xa_cons (px_var 7) xa_nil)))))))) sx_nil) (sx_cons (sx_if (xt_w (xw_and (pt_eq8 (room_u hr) (px_var 12) px_int) (xw_and1 (pt_ne8 (room_u hr) (px_var 1) (px_lst xa_nil))))) (sx_one (sx_ret (px_tup (xa_cons px_str (xa_cons (px_ix fx.hG (room_u hr) (px_var 1) (px_fz (pxt_call ((ok__law_choice fx).mono (by decide)) hr (takes_of rfl rfl rfl rfl) (xa_cons (px_var 0) (xa_cons (px_len fx.b_len (px_var 1)) xa_nil))))) (xa_cons (px_var 10) xa_nil)))))) sx_nil) (sx_cons (sx_if (xt_w (xw_and (pt_eq8 (room_u hr) (px_var 12) px_int) (xw_and1 (pt_ne8 (room_u hr) (px_var 2) (px_lst xa_nil))))) (sx_one (sx_ret (px_tup (xa_cons px_str (xa_cons (px_var 10) (xa_cons (px_ix fx.hG (room_u hr) (px_var 2) (px_fz (pxt_call ((ok__law_choice fx).mono (by decide)) hr (takes_of rfl rfl rfl rfl) (xa_cons (px_var 0) (xa_cons (px_len fx.b_len (px_var 2)) xa_nil))))) xa_nil)))))) sx_nil) (sx_cons (sx_set sc__law_simple.nd (px_lst (xa_cons (px_tup (xa_cons px_str (xa_cons (px_var 10) xa_nil))) (xa_cons (px_tup (xa_cons px_str (xa_cons (px_var 10) (xa_cons (px_var 11) xa_nil)))) (xa_cons (px_tup (xa_cons px_str (xa_cons (px_var 10) (xa_cons (px_var 5) xa_nil)))) (xa_cons (px_tup (xa_cons px_str (xa_cons (px_var 10) (xa_cons (px_var 6) xa_nil)))) (xa_cons (px_tup (xa_cons px_str (xa_cons (px_var 10) (xa_cons (px_var 5) (xa_cons (px_var 9) (xa_cons (px_var 6) xa_nil)))))) (xa_cons (px_tup (xa_cons px_str (xa_cons (px_var 10) (xa_cons (px_var 5) (xa_cons (px_var 9) (xa_cons (px_var 6) xa_nil)))))) xa_nil)))))))) (sx_cons (sx_set sc__law_simple.nd (px_add (px_var 13) (px_lst (xa_cons (px_tup (xa_cons px_str (xa_cons (px_var 10) (xa_cons (px_var 5) (xa_cons (px_var 9) (xa_cons (px_var 11) xa_nil)))))) (xa_cons (px_tup (xa_cons px_str (xa_cons (px_var 10) (xa_cons (px_var 6) (xa_cons (px_var 9) (xa_cons (px_var 11) xa_nil)))))) (xa_cons (px_tup (xa_cons px_str (xa_cons (px_var 5) (xa_cons (px_var 10) (xa_cons (px_var 6) (xa_cons (px_var 9) xa_nil)))))) (xa_cons (px_tup (xa_cons px_str (xa_cons (px_var 5) (xa_cons (px_var 10) (xa_cons (px_var 6) (xa_cons (px_var 9) xa_nil)))))) xa_nil))))))) (sx_cons (sx_set sc__law_simple.nd (px_add (px_var 13) (px_lst (xa_cons (px_tup (xa_cons px_str (xa_cons (px_var 10) (xa_cons (px_var 11) (xa_cons (px_var 5) (xa_cons (px_var 9) xa_nil)))))) (xa_cons (px_tup (xa_cons px_str (xa_cons (px_var 10) (xa_cons (px_var 10) (xa_cons (px_var 5) (xa_cons (px_var 9) xa_nil)))))) (xa_cons (px_tup (xa_cons px_str (xa_cons (px_var 5) xa_nil))) (xa_cons (px_tup (xa_cons px_str (xa_cons (px_var 10) xa_nil))) (xa_cons (px_tup (xa_cons px_str (xa_cons (px_var 11) xa_nil))) xa_nil)))))))) (sx_one (sx_ret (px_ix fx.hG (room_u hr) (px_var 13) (px_mod (px_sub (px_var 12) px_int) px_int))))))))))))))))
noncomputable def m__law_onward : S8 := (sseq (sif (mtb (mbin gGt (fz (tcall 2 F__law_choice (mcons (mvar 0) (mcons (mret (.int 3)) mnil)))) (mret (.int 0)))) (sret (vif (mtb (mbin gLt (mbin gAdd (mvar 1) (mret (.int 1))) (mvar 2))) (mbin gAdd (mvar 1) (mret (.int 1))) (m1 gNeg (mret (.int 1))))) snext) (sret (mbin gSub (fz (tcall 2 F__law_choice (mcons (mvar 0) (mcons (mbin gAdd (mvar 2) (mret (.int 1))) mnil)))) (mret (.int 1)))))
noncomputable def F__law_onward : FF := runF 3 m__law_onward
theorem sc__law_onward : FnScope ["_law_state_here", "_law_at", "_law_many"] ["_law_state_here", "_law_at", "_law_many"] (defScope (topS 78)) := ⟨rfl, rfl, rfl, by decide +kernel, rfl, by decide +kernel, by decide +kernel⟩
theorem ok__law_onward (fx : Fx w K mg) : Fd P w K mg base 2 "_law_onward" 3 F__law_onward :=
  fd_of (k := 1) fx.f__law_onward sc__law_onward rfl (fun _ _ _ _ _ _ us hl => match us, hl with | [_, _, _], _ => rfl) fun f cdv A outer s H E hr =>
  (sx_cons (sx_if (pt_gt8 (px_fz (pxt_call ((ok__law_choice fx).mono (by decide)) hr (takes_of rfl rfl rfl rfl) (xa_cons (px_var 0) (xa_cons px_int xa_nil)))) px_int) (sx_one (sx_ret (px_if (pt_lt8 (px_add (px_var 1) px_int) (px_var 2)) (px_add (px_var 1) px_int) (px_neg px_int)))) sx_nil) (sx_one (sx_ret (px_sub (px_fz (pxt_call ((ok__law_choice fx).mono (by decide)) hr (takes_of rfl rfl rfl rfl) (xa_cons (px_var 0) (xa_cons (px_add (px_var 2) px_int) xa_nil)))) px_int))))
noncomputable def f1__law_with_marks : S8 := (sseq (sif (mtb (mcall 1 F__law_marked (mcons (mvar 4) mnil))) (sset 4 (mbin gAdd (msl (mvar 4) none (some (m1 gNeg (mret (.int 1))))) (mtup (mcons (vif (mtb (mbin (gIn G) (mvar 3) (mvar 1))) (mret (.str "give")) (mret (.str "copy"))) mnil)))) snext) (sapp 2 (mtup (mcons (mvar 4) (mcons (mvar 5) mnil)))))
noncomputable def m__law_with_marks : S8 := (sseq (ssetT 2 (tmlst mnil)) (sseq (sfor (ienum (mvar 0)) (gtup 2 (gcons (gset 3) (gcons (gtup 2 (gcons (gset 4) (gcons (gset 5) gnil))) gnil))) f1__law_with_marks) (sret (m1 gTuple (mvw 2)))))
noncomputable def F__law_with_marks : FF := runF 6 m__law_with_marks
theorem sc__law_with_marks : FnScope ["_law_rows_here", "_law_gives", "_law_found", "_law_at", "_law_deed", "_law_nexts"] ["_law_rows_here", "_law_gives"] (defScope (topS 80)) := ⟨rfl, rfl, rfl, by decide +kernel, rfl, by decide +kernel, by decide +kernel⟩
theorem ok__law_with_marks (fx : Fx w K mg) : Fd P w K mg base 2 "_law_with_marks" 2 F__law_with_marks :=
  fd_of (k := 1) fx.f__law_with_marks sc__law_with_marks rfl (fun _ _ _ _ _ _ us hl => match us, hl with | [_, _], _ => rfl) fun f cdv A outer s H E hr =>
  (sx_cons (sx_setT sc__law_with_marks.nd (pxt_lst xa_nil)) (sx_cons (sx_for (passes_of rfl) rfl (pix_enum fx.b_enumerate (px_var 0)) (pgx_tup rfl (pgx_cons (pgx_name 3 sc__law_with_marks.nd) (pgx_cons (pgx_tup rfl (pgx_cons (pgx_name 4 sc__law_with_marks.nd) (pgx_cons (pgx_name 5 sc__law_with_marks.nd) pgx_nil))) pgx_nil))) (sx_cons (sx_if (pt_val8 (px_call ((ok__law_marked fx).mono (by decide)) hr (takes_of rfl rfl rfl rfl) (xa_cons (px_var 4) xa_nil))) (sx_one (sx_set sc__law_with_marks.nd (px_add (px_sl2 (px_var 4) (px_neg px_int)) (px_tup (xa_cons (px_if (pt_in8 fx.hG (room_u hr) (px_var 3) (px_var 1)) px_str px_str) xa_nil))))) sx_nil) (sx_one (sx_app (px_tup (xa_cons (px_var 4) (xa_cons (px_var 5) xa_nil))))))) (sx_one (sx_ret (px_totuple fx.b_tuple (px_vw 2))))))
noncomputable def f1__law_way_right : S8 := (sseq (sif (tor (mtb (mbin (gNotIn G) (mvar 5) (mbin (gIx G) (mbin (gIx G) (mvar 0) (mvar 4)) (mret (.int 1))))) (mtb (mbin gEq (mcall 1 F__law_fills (mcons (mbin (gIx G) (mbin (gIx G) (mvar 0) (mvar 4)) (mret (.int 0))) mnil)) (mvar 3)))) (sret (mret (.bl false))) snext) (sset 4 (mvar 5)))
noncomputable def m__law_way_right : S8 := (sseq (spar 3 4 (mcons (mcall 1 F__law_spends (mcons (mbin (gIx G) (mbin (gIx G) (mvar 0) (mvar 1)) (mret (.int 0))) mnil)) (mcons (mvar 1) mnil))) (sseq (sfor (isrc (mvar 2)) (gset 5) f1__law_way_right) (sret (vand (mbin gNe (mvar 2) (mtup mnil)) (mbin (gIn G) (mvar 3) (mcall 1 F__law_uses (mcons (mbin (gIx G) (mbin (gIx G) (mvar 0) (mvar 4)) (mret (.int 0))) mnil)))))))
noncomputable def F__law_way_right : FF := runF 6 m__law_way_right
theorem sc__law_way_right : FnScope ["_law_rows_here", "_law_at", "_law_way", "_law_name", "_law_here", "_law_one"] ["_law_rows_here", "_law_at", "_law_way"] (defScope (topS 81)) := ⟨rfl, rfl, rfl, by decide +kernel, rfl, by decide +kernel, by decide +kernel⟩
theorem ok__law_way_right (fx : Fx w K mg) : Fd P w K mg base 2 "_law_way_right" 3 F__law_way_right :=
  fd_of (k := 1) fx.f__law_way_right sc__law_way_right rfl (fun _ _ _ _ _ _ us hl => match us, hl with | [_, _, _], _ => rfl) fun f cdv A outer s H E hr =>
  (sx_cons (sx_par rfl sc__law_way_right.nd (xa_cons (px_call ((ok__law_spends fx).mono (by decide)) hr (takes_of rfl rfl rfl rfl) (xa_cons (px_ix fx.hG (room_u hr) (px_ix fx.hG (room_u hr) (px_var 0) (px_var 1)) px_int) xa_nil)) (xa_cons (px_var 1) xa_nil))) (sx_cons (sx_for (passes_of rfl) rfl (pix_seq (px_var 2)) (pgx_name 5 sc__law_way_right.nd) (sx_cons (sx_if (xt_w (xw_or (pt_notin8 fx.hG (room_u hr) (px_var 5) (px_ix fx.hG (room_u hr) (px_ix fx.hG (room_u hr) (px_var 0) (px_var 4)) px_int)) (xw_or1 (pt_eq8 (room_u hr) (px_call ((ok__law_fills fx).mono (by decide)) hr (takes_of rfl rfl rfl rfl) (xa_cons (px_ix fx.hG (room_u hr) (px_ix fx.hG (room_u hr) (px_var 0) (px_var 4)) px_int) xa_nil)) (px_var 3))))) (sx_one (sx_ret px_bl)) sx_nil) (sx_one (sx_set sc__law_way_right.nd (px_var 5))))) (sx_one (sx_ret (px_and (px_ne (room_u hr) (px_var 2) (px_tup xa_nil)) (px_one (px_in fx.hG (room_u hr) (px_var 3) (px_call ((ok__law_uses fx).mono (by decide)) hr (takes_of rfl rfl rfl rfl) (xa_cons (px_ix fx.hG (room_u hr) (px_ix fx.hG (room_u hr) (px_var 0) (px_var 4)) px_int) xa_nil)))))))))
noncomputable def f1__law_bar_right : S8 := (sseq (sif (tand (mtb (mbin (gIn G) (mvar 4) (mvar 2))) (mtb (mbin (gIn G) (mvar 3) (mcall 1 F__law_uses (mcons (mbin (gIx G) (mbin (gIx G) (mvar 0) (mvar 4)) (mret (.int 0))) mnil))))) (sret (mret (.bl false))) snext) (sseq (sset 5 (mlc (isrc (mbin (gIx G) (mbin (gIx G) (mvar 0) (mvar 4)) (mret (.int 1)))) (gset 6) (tand (mtb (mbin gGe (mvar 6) (mret (.int 0)))) (mtb (mbin (gNotIn G) (mvar 6) (mvar 2)))) (mvar 6) [6])) (sif (tand (mtb (mbin gNe (mcall 1 F__law_fills (mcons (mbin (gIx G) (mbin (gIx G) (mvar 0) (mvar 4)) (mret (.int 0))) mnil)) (mvar 3))) (mtb (mbin gNe (mvar 5) (mlst mnil)))) (sret (mret (.bl false))) snext)))
noncomputable def m__law_bar_right : S8 := (sseq (sset 3 (mcall 1 F__law_spends (mcons (mbin (gIx G) (mbin (gIx G) (mvar 0) (mvar 1)) (mret (.int 0))) mnil))) (sseq (sfor (isrc (mbin gAdd (mtup (mcons (mvar 1) mnil)) (mvar 2))) (gset 4) f1__law_bar_right) (sret (mret (.bl true)))))
noncomputable def F__law_bar_right : FF := runF 7 m__law_bar_right
theorem sc__law_bar_right : FnScope ["_law_rows_here", "_law_at", "_law_bar", "_law_name", "_law_here", "_law_later", "_law_one"] ["_law_rows_here", "_law_at", "_law_bar"] (defScope (topS 82)) := ⟨rfl, rfl, rfl, by decide +kernel, rfl, by decide +kernel, by decide +kernel⟩
theorem ok__law_bar_right (fx : Fx w K mg) : Fd P w K mg base 2 "_law_bar_right" 3 F__law_bar_right :=
  fd_of (k := 1) fx.f__law_bar_right sc__law_bar_right rfl (fun _ _ _ _ _ _ us hl => match us, hl with | [_, _, _], _ => rfl) fun f cdv A outer s H E hr =>
  (sx_cons (sx_set sc__law_bar_right.nd (px_call ((ok__law_spends fx).mono (by decide)) hr (takes_of rfl rfl rfl rfl) (xa_cons (px_ix fx.hG (room_u hr) (px_ix fx.hG (room_u hr) (px_var 0) (px_var 1)) px_int) xa_nil))) (sx_cons (sx_for (passes_of rfl) rfl (pix_seq (px_add (px_tup (xa_cons (px_var 1) xa_nil)) (px_var 2))) (pgx_name 4 sc__law_bar_right.nd) (sx_cons (sx_if (xt_w (xw_and (pt_in8 fx.hG (room_u hr) (px_var 4) (px_var 2)) (xw_and1 (pt_in8 fx.hG (room_u hr) (px_var 3) (px_call ((ok__law_uses fx).mono (by decide)) hr (takes_of rfl rfl rfl rfl) (xa_cons (px_ix fx.hG (room_u hr) (px_ix fx.hG (room_u hr) (px_var 0) (px_var 4)) px_int) xa_nil)))))) (sx_one (sx_ret px_bl)) sx_nil) (sx_cons (sx_setLc rfl sc__law_bar_right.nd (pix_seq (px_ix fx.hG (room_u hr) (px_ix fx.hG (room_u hr) (px_var 0) (px_var 4)) px_int)) (blkOk_by (own := [("_law_one", 6)]) (by rfl)) (fun _ _ _ _ _ => (pgx_name 6 sc__law_bar_right.nd)) (fun _ _ _ _ _ => (ptx_one (xt_w (xw_and (pt_ge8 (px_var 6) px_int) (xw_and1 (pt_notin8 fx.hG (room_u hr) (px_var 6) (px_var 2))))))) (fun _ _ _ _ _ => (px_var 6))) (sx_one (sx_if (xt_w (xw_and (pt_ne8 (room_u hr) (px_call ((ok__law_fills fx).mono (by decide)) hr (takes_of rfl rfl rfl rfl) (xa_cons (px_ix fx.hG (room_u hr) (px_ix fx.hG (room_u hr) (px_var 0) (px_var 4)) px_int) xa_nil)) (px_var 3)) (xw_and1 (pt_ne8 (room_u hr) (px_var 5) (px_lst xa_nil))))) (sx_one (sx_ret px_bl)) sx_nil))))) (sx_one (sx_ret px_bl))))
noncomputable def m_are_points : S8 := (sseq (sif (tor (tnot (mtb (m1 (gIsI "tuple") (mvar 1)))) (tnot (mtb (m1 gAll (mlc (isrc (mvar 1)) (gset 2) tyes (mcall 3 F_is_within (mcons (mvar 2) (mcons (mret (.int 0)) (mcons (mbin gSub (mvar 0) (mret (.int 1))) mnil)))) [2]))))) (sret (mret (.bl false))) snext) (sret (m1 gAll (mlc (izip (mvar 1) (msl (mvar 1) (some (mret (.int 1))) none)) (gtup 2 (gcons (gset 2) (gcons (gset 3) gnil))) tyes (mbin gLt (mvar 2) (mvar 3)) [2, 3]))))
noncomputable def F_are_points : FF := runF 4 m_are_points
theorem sc_are_points : FnScope ["many", "thing", "one", "other"] ["many", "thing"] (defScope (topS 9)) := ⟨rfl, rfl, rfl, by decide +kernel, rfl, by decide +kernel, by decide +kernel⟩
theorem ok_are_points (fx : Fx w K mg) : Fd P w K mg base 3 "are_points" 2 F_are_points :=
  fd_of (k := 2) fx.f_are_points sc_are_points rfl (fun _ _ _ _ _ _ us hl => match us, hl with | [_, _], _ => rfl) fun f cdv A outer s H E hr =>
  (sx_cons (sx_if (xt_w (xw_or (xt_not (pt_val8 (px_isi kt_tuple (by decide +kernel) fx.b_tuple fx.b_isinstance (px_var 1)))) (xw_or1 (xt_not (pt_val8 (px_all rfl fx.b_all (px_lc rfl sc_are_points.nd (pix_seq (px_var 1)) (blkOk_by (own := [("one", 2)]) (by rfl)) (fun _ _ _ _ _ => (pgx_name 2 sc_are_points.nd)) (fun _ _ _ _ _ => ptx_nil) (fun _ _ _ _ _ => (px_call ((ok_is_within fx).mono (by decide)) hr takes0 (xa_cons (px_var 2) (xa_cons px_int (xa_cons (px_sub (px_var 0) px_int) xa_nil)))))))))))) (sx_one (sx_ret px_bl)) sx_nil) (sx_one (sx_ret (px_all rfl fx.b_all (px_lc rfl sc_are_points.nd (pix_zip fx.b_zip (px_var 1) (px_sl1 (px_var 1) px_int)) (blkOk_by (own := [("one", 2), ("other", 3)]) (by rfl)) (fun _ _ _ _ _ => (pgx_tup rfl (pgx_cons (pgx_name 2 sc_are_points.nd) (pgx_cons (pgx_name 3 sc_are_points.nd) pgx_nil)))) (fun _ _ _ _ _ => ptx_nil) (fun _ _ _ _ _ => (px_lt (px_var 2) (px_var 3))))))))
noncomputable def m_is_row_of_points : S8 := (sseq (sif (tor (tnot (mtb (m1 (gIsI "tuple") (mvar 1)))) (tor (mtb (mbin gEq (mvar 1) (mtup mnil))) (tnot (mtb (m1 gAll (mlc (isrc (mvar 1)) (gset 2) tyes (mcall 3 F_is_within (mcons (mvar 2) (mcons (mret (.int 0)) (mcons (mbin gSub (m1 gLen (mvar 0)) (mret (.int 1))) mnil)))) [2])))))) (sret (mret (.bl false))) snext) (sret (m1 gAll (mlc (izip (mvar 1) (msl (mvar 1) (some (mret (.int 1))) none)) (gtup 2 (gcons (gset 2) (gcons (gset 3) gnil))) tyes (mbin (gIn G) (mvar 3) (mbin (gIx G) (mvar 0) (mvar 2))) [2, 3]))))
noncomputable def F_is_row_of_points : FF := runF 4 m_is_row_of_points
theorem sc_is_row_of_points : FnScope ["chart", "thing", "one", "other"] ["chart", "thing"] (defScope (topS 13)) := ⟨rfl, rfl, rfl, by decide +kernel, rfl, by decide +kernel, by decide +kernel⟩
theorem ok_is_row_of_points (fx : Fx w K mg) : Fd P w K mg base 3 "is_row_of_points" 2 F_is_row_of_points :=
  fd_of (k := 2) fx.f_is_row_of_points sc_is_row_of_points rfl (fun _ _ _ _ _ _ us hl => match us, hl with | [_, _], _ => rfl) fun f cdv A outer s H E hr =>
  (sx_cons (sx_if (xt_w (xw_or (xt_not (pt_val8 (px_isi kt_tuple (by decide +kernel) fx.b_tuple fx.b_isinstance (px_var 1)))) (xw_or (pt_eq8 (room_u hr) (px_var 1) (px_tup xa_nil)) (xw_or1 (xt_not (pt_val8 (px_all rfl fx.b_all (px_lc rfl sc_is_row_of_points.nd (pix_seq (px_var 1)) (blkOk_by (own := [("one", 2)]) (by rfl)) (fun _ _ _ _ _ => (pgx_name 2 sc_is_row_of_points.nd)) (fun _ _ _ _ _ => ptx_nil) (fun _ _ _ _ _ => (px_call ((ok_is_within fx).mono (by decide)) hr takes0 (xa_cons (px_var 2) (xa_cons px_int (xa_cons (px_sub (px_len fx.b_len (px_var 0)) px_int) xa_nil))))))))))))) (sx_one (sx_ret px_bl)) sx_nil) (sx_one (sx_ret (px_all rfl fx.b_all (px_lc rfl sc_is_row_of_points.nd (pix_zip fx.b_zip (px_var 1) (px_sl1 (px_var 1) px_int)) (blkOk_by (own := [("one", 2), ("other", 3)]) (by rfl)) (fun _ _ _ _ _ => (pgx_tup rfl (pgx_cons (pgx_name 2 sc_is_row_of_points.nd) (pgx_cons (pgx_name 3 sc_is_row_of_points.nd) pgx_nil)))) (fun _ _ _ _ _ => ptx_nil) (fun _ _ _ _ _ => (px_in fx.hG (room_u hr) (px_var 3) (px_ix fx.hG (room_u hr) (px_var 0) (px_var 2)))))))))
noncomputable def m_paper_by : S8 := (sseq (sset 3 (mcall 3 F_way_by (mcons (mvar 0) (mcons (mvar 1) (mcons (mvar 2) mnil))))) (sseq (sif (mtb (mbin gIsNot (mvar 3) (mret .non))) (sret (mtup (mcons (mret (.str "way")) (mcons (mvar 3) mnil)))) snext) (sret (mtup (mcons (mret (.str "bar")) (mcons (mcall 2 F_come_to (mcons (mvar 0) (mcons (mvar 1) mnil))) mnil))))))
noncomputable def F_paper_by : FF := runF 4 m_paper_by
theorem sc_paper_by : FnScope ["chart", "starts", "goals", "way"] ["chart", "starts", "goals"] (defScope (topS 19)) := ⟨rfl, rfl, rfl, by decide +kernel, rfl, by decide +kernel, by decide +kernel⟩
theorem ok_paper_by (fx : Fx w K mg) : Fd P w K mg base 3 "paper_by" 3 F_paper_by :=
  fd_of (k := 2) fx.f_paper_by sc_paper_by rfl (fun _ _ _ _ _ _ us hl => match us, hl with | [_, _, _], _ => rfl) fun f cdv A outer s H E hr =>
  (sx_cons (sx_set sc_paper_by.nd (px_call ((ok_way_by fx).mono (by decide)) hr (takes_of rfl rfl rfl rfl) (xa_cons (px_var 0) (xa_cons (px_var 1) (xa_cons (px_var 2) xa_nil))))) (sx_cons (sx_if (pt_isnot8 (px_var 3) px_non) (sx_one (sx_ret (px_tup (xa_cons px_str (xa_cons (px_var 3) xa_nil))))) sx_nil) (sx_one (sx_ret (px_tup (xa_cons px_str (xa_cons (px_call ((ok_come_to fx).mono (by decide)) hr (takes_of rfl rfl rfl rfl) (xa_cons (px_var 0) (xa_cons (px_var 1) xa_nil))) xa_nil)))))))
noncomputable def m_is_number : S8 := (sret (mcall 3 F_is_within (mcons (mvar 0) (mcons (m1 gNeg (mret c_MOST_NUMBER)) (mcons (mret c_MOST_NUMBER) mnil)))))
noncomputable def F_is_number : FF := runF 1 m_is_number
theorem sc_is_number : FnScope ["thing"] ["thing"] (defScope (topS 24)) := ⟨rfl, rfl, rfl, by decide +kernel, rfl, by decide +kernel, by decide +kernel⟩
theorem ok_is_number (fx : Fx w K mg) : Fd P w K mg base 3 "is_number" 1 F_is_number :=
  fd_of (k := 2) fx.f_is_number sc_is_number rfl (fun _ _ _ _ _ _ us hl => match us, hl with | [_], _ => rfl) fun f cdv A outer s H E hr =>
  (sx_one (sx_ret (px_call ((ok_is_within fx).mono (by decide)) hr (takes_of rfl rfl rfl rfl) (xa_cons (px_var 0) (xa_cons (px_neg (px_g fx.c_MOST_NUMBER)) (xa_cons (px_g fx.c_MOST_NUMBER) xa_nil))))))
noncomputable def m_is_end_of : S8 := (sseq (sif (mtb (mbin gIs (mvar 0) (mret .non))) (sret (mcall 3 F_is_within (mcons (mvar 1) (mcons (mret (.int 0)) (mcons (mbin gSub (mret c_MOST_CHANNELS) (mret (.int 1))) mnil))))) snext) (sret (vand (mcall 3 F_is_within (mcons (mvar 1) (mcons (mret (.int 0)) (mcons (mbin gSub (m1 gLen (mvar 0)) (mret (.int 1))) mnil)))) (mbin gEq (mbin (gIx G) (mbin (gIx G) (mvar 0) (mvar 1)) (mvar 3)) (mvar 2)))))
noncomputable def F_is_end_of : FF := runF 4 m_is_end_of
theorem sc_is_end_of : FnScope ["channels", "thing", "actor", "side"] ["channels", "thing", "actor", "side"] (defScope (topS 37)) := ⟨rfl, rfl, rfl, by decide +kernel, rfl, by decide +kernel, by decide +kernel⟩
theorem ok_is_end_of (fx : Fx w K mg) : Fd P w K mg base 3 "is_end_of" 4 F_is_end_of :=
  fd_of (k := 2) fx.f_is_end_of sc_is_end_of rfl (fun _ _ _ _ _ _ us hl => match us, hl with | [_, _, _, _], _ => rfl) fun f cdv A outer s H E hr =>
  (sx_cons (sx_if (pt_is8 (px_var 0) px_non) (sx_one (sx_ret (px_call ((ok_is_within fx).mono (by decide)) hr (takes_of rfl rfl rfl rfl) (xa_cons (px_var 1) (xa_cons px_int (xa_cons (px_sub (px_g fx.c_MOST_CHANNELS) px_int) xa_nil)))))) sx_nil) (sx_one (sx_ret (px_and (px_call ((ok_is_within fx).mono (by decide)) hr (takes_of rfl rfl rfl rfl) (xa_cons (px_var 1) (xa_cons px_int (xa_cons (px_sub (px_len fx.b_len (px_var 0)) px_int) xa_nil)))) (px_one (px_eq (room_u hr) (px_ix fx.hG (room_u hr) (px_ix fx.hG (room_u hr) (px_var 0) (px_var 1)) (px_var 3)) (px_var 2)))))))
noncomputable def m_case_by : S8 := (sseq (sset 2 (mcall 1 F_spent_by (mcons (mbin (gIx G) (mbin (gIx G) (mvar 0) (mvar 1)) (mret (.int 0))) mnil))) (sseq (sset 3 (mlc (ienum (mvar 0)) (gtup 2 (gcons (gset 4) (gcons (gset 5) gnil))) (mtb (mbin (gIn G) (mvar 2) (mcall 1 F_used_by (mcons (mbin (gIx G) (mvar 5) (mret (.int 0))) mnil)))) (mvar 4) [4, 5])) (sret (mtup (mcons (m1 gTuple (mlc (isrc (mvar 0)) (gset 5) tyes (mcall 2 F_rows_behind (mcons (mvar 5) (mcons (mvar 2) mnil))) [5])) (mcons (mcall 2 F_rows_behind (mcons (mbin (gIx G) (mvar 0) (mvar 1)) (mcons (mvar 2) mnil))) (mcons (m1 gTuple (mvar 3)) mnil)))))))
noncomputable def F_case_by : FF := runF 6 m_case_by
theorem sc_case_by : FnScope ["rows", "row", "name", "goals", "at", "one"] ["rows", "row"] (defScope (topS 60)) := ⟨rfl, rfl, rfl, by decide +kernel, rfl, by decide +kernel, by decide +kernel⟩
theorem ok_case_by (fx : Fx w K mg) : Fd P w K mg base 3 "case_by" 2 F_case_by :=
  fd_of (k := 2) fx.f_case_by sc_case_by rfl (fun _ _ _ _ _ _ us hl => match us, hl with | [_, _], _ => rfl) fun f cdv A outer s H E hr =>
  (sx_cons (sx_set sc_case_by.nd (px_call ((ok_spent_by fx).mono (by decide)) hr (takes_of rfl rfl rfl rfl) (xa_cons (px_ix fx.hG (room_u hr) (px_ix fx.hG (room_u hr) (px_var 0) (px_var 1)) px_int) xa_nil))) (sx_cons (sx_setLc rfl sc_case_by.nd (pix_enum fx.b_enumerate (px_var 0)) (blkOk_by (own := [("at", 4), ("one", 5)]) (by rfl)) (fun _ _ _ _ _ => (pgx_tup rfl (pgx_cons (pgx_name 4 sc_case_by.nd) (pgx_cons (pgx_name 5 sc_case_by.nd) pgx_nil)))) (fun _ _ _ _ _ => (ptx_one (pt_in8 fx.hG (room_u hr) (px_var 2) (px_call ((ok_used_by fx).mono (by decide)) hr takes0 (xa_cons (px_ix fx.hG (room_u hr) (px_var 5) px_int) xa_nil))))) (fun _ _ _ _ _ => (px_var 4))) (sx_one (sx_ret (px_tup (xa_cons (px_totuple fx.b_tuple (px_lc rfl sc_case_by.nd (pix_seq (px_var 0)) (blkOk_by (own := [("one", 5)]) (by rfl)) (fun _ _ _ _ _ => (pgx_name 5 sc_case_by.nd)) (fun _ _ _ _ _ => ptx_nil) (fun _ _ _ _ _ => (px_call ((ok_rows_behind fx).mono (by decide)) hr takes0 (xa_cons (px_var 5) (xa_cons (px_var 2) xa_nil)))))) (xa_cons (px_call ((ok_rows_behind fx).mono (by decide)) hr (takes_of rfl rfl rfl rfl) (xa_cons (px_ix fx.hG (room_u hr) (px_var 0) (px_var 1)) (xa_cons (px_var 2) xa_nil))) (xa_cons (px_totuple fx.b_tuple (px_var 3)) xa_nil))))))))
noncomputable def m_need_row : S8 := (sif (tor (tnot (mtb (mcall 3 F_is_within (mcons (mvar 1) (mcons (mret (.int 0)) (mcons (mbin gSub (m1 gLen (mvar 0)) (mret (.int 1))) mnil)))))) (mtb (mbin (gNotIn G) (mbin (gIx G) (mbin (gIx G) (mbin (gIx G) (mvar 0) (mvar 1)) (mret (.int 0))) (mret (.int 0))) (mret c_SPENT)))) (sraise "NoRow") snext)
noncomputable def F_need_row : FF := runF 2 m_need_row
theorem sc_need_row : FnScope ["rows", "row"] ["rows", "row"] (defScope (topS 61)) := ⟨rfl, rfl, rfl, by decide +kernel, rfl, by decide +kernel, by decide +kernel⟩
theorem ok_need_row (fx : Fx w K mg) : Fd P w K mg base 3 "need_row" 2 F_need_row :=
  fd_of (k := 2) fx.f_need_row sc_need_row rfl (fun _ _ _ _ _ _ us hl => match us, hl with | [_, _], _ => rfl) fun f cdv A outer s H E hr =>
  (sx_one (sx_if (xt_w (xw_or (xt_not (pt_val8 (px_call ((ok_is_within fx).mono (by decide)) hr (takes_of rfl rfl rfl rfl) (xa_cons (px_var 1) (xa_cons px_int (xa_cons (px_sub (px_len fx.b_len (px_var 0)) px_int) xa_nil)))))) (xw_or1 (pt_notin8 fx.hG (room_u hr) (px_ix fx.hG (room_u hr) (px_ix fx.hG (room_u hr) (px_ix fx.hG (room_u hr) (px_var 0) (px_var 1)) px_int) px_int) (px_g fx.c_SPENT))))) (sx_one (sx_raise fx.x_NoRow rfl (takes_of rfl rfl rfl rfl))) sx_nil))
noncomputable def f1__law_rows : S8 := (sseq (sset 4 (mtup (mcons (mret (.str "test")) (mcons (mbin (gIx G) (mlst (mcons (mret (.str "a")) (mcons (mret (.str "count")) mnil))) (fz (tcall 2 F__law_choice (mcons (mvar 0) (mcons (mret (.int 2)) mnil))))) mnil)))) (sseq (sif (mtb (mbin gGt (fz (tcall 2 F__law_choice (mcons (mvar 0) (mcons (mret (.int 5)) mnil)))) (mret (.int 0)))) (sset 4 (fz (tcall 3 F__law_simple (mcons (mvar 0) (mcons (mlst (mcons (mret (.int 0)) (mcons (mret (.int 3)) mnil))) (mcons (mlst (mcons (mret (.int 1)) (mcons (mret (.int 5)) mnil))) mnil)))))) (sif (mtb (mbin gEq (fz (tcall 2 F__law_choice (mcons (mvar 0) (mcons (mret (.int 2)) mnil)))) (mret (.int 0)))) (sset 4 (mbin (gIx G) (mlst (mcons (mtup (mcons (mret (.str "let")) (mcons (mret (.str "G")) (mcons (mret (.str "H")) mnil)))) (mcons (mtup (mcons (mret (.str "send")) (mcons (mret (.int 0)) (mcons (mret (.str "G")) mnil)))) (mcons (mtup (mcons (mret (.str "pick")) (mcons (mret (.str "H")) (mcons (mret (.str "H")) (mcons (mret (.str "a")) (mcons (mret (.int 0)) mnil)))))) mnil)))) (fz (tcall 2 F__law_choice (mcons (mvar 0) (mcons (mret (.int 3)) mnil)))))) snext)) (sseq (sset 5 (mtup (mcons (fz (tcall 3 F__law_onward (mcons (mvar 0) (mcons (mvar 3) (mcons (mvar 2) mnil))))) mnil))) (sseq (sif (mtb (mbin gEq (mbin (gIx G) (mvar 4) (mret (.int 0))) (mret (.str "test")))) (sset 5 (mbin gAdd (mvar 5) (mtup (mcons (fz (tcall 3 F__law_onward (mcons (mvar 0) (mcons (mvar 3) (mcons (mvar 2) mnil))))) mnil)))) snext) (sseq (sif (mtb (mcall 1 F__law_marked (mcons (mvar 4) mnil))) (sset 4 (mbin gAdd (mvar 4) (mtup (mcons (mbin (gIx G) (mlst (mcons (mret (.str "copy")) (mcons (mret (.str "give")) mnil))) (fz (tcall 2 F__law_choice (mcons (mvar 0) (mcons (mret (.int 2)) mnil))))) mnil)))) snext) (sapp 1 (mtup (mcons (mvar 4) (mcons (mvar 5) mnil)))))))))
noncomputable def m__law_rows : S8 := (sseq (ssetT 1 (tmlst mnil)) (sseq (sset 2 (mbin (gIx G) (mlst (mcons (fz (tcall 2 F__law_choice (mcons (mvar 0) (mcons (mret (.int 3)) mnil)))) (mcons (fz (tcall 2 F__law_choice (mcons (mvar 0) (mcons (mret (.int 9)) mnil)))) (mcons (mbin gAdd (mret (.int 1)) (fz (tcall 2 F__law_choice (mcons (mvar 0) (mcons (mret (.int 40)) mnil))))) mnil)))) (fz (tcall 2 F__law_choice (mcons (mvar 0) (mcons (mret (.int 3)) mnil)))))) (sseq (sfor (irange1 (mvar 2)) (gset 3) f1__law_rows) (sret (m1 gTuple (mvw 1))))))
noncomputable def F__law_rows : FF := runF 6 m__law_rows
theorem sc__law_rows : FnScope ["_law_state_here", "_law_found", "_law_many", "_law_at", "_law_deed", "_law_nexts"] ["_law_state_here"] (defScope (topS 79)) := ⟨rfl, rfl, rfl, by decide +kernel, rfl, by decide +kernel, by decide +kernel⟩
theorem ok__law_rows (fx : Fx w K mg) : Fd P w K mg base 3 "_law_rows" 1 F__law_rows :=
  fd_of (k := 2) fx.f__law_rows sc__law_rows rfl (fun _ _ _ _ _ _ us hl => match us, hl with | [_], _ => rfl) fun f cdv A outer s H E hr =>
  (sx_cons (sx_setT sc__law_rows.nd (pxt_lst xa_nil)) (sx_cons (sx_set sc__law_rows.nd (px_ix fx.hG (room_u hr) (px_lst (xa_cons (px_fz (pxt_call ((ok__law_choice fx).mono (by decide)) hr (takes_of rfl rfl rfl rfl) (xa_cons (px_var 0) (xa_cons px_int xa_nil)))) (xa_cons (px_fz (pxt_call ((ok__law_choice fx).mono (by decide)) hr (takes_of rfl rfl rfl rfl) (xa_cons (px_var 0) (xa_cons px_int xa_nil)))) (xa_cons (px_add px_int (px_fz (pxt_call ((ok__law_choice fx).mono (by decide)) hr (takes_of rfl rfl rfl rfl) (xa_cons (px_var 0) (xa_cons px_int xa_nil))))) xa_nil)))) (px_fz (pxt_call ((ok__law_choice fx).mono (by decide)) hr (takes_of rfl rfl rfl rfl) (xa_cons (px_var 0) (xa_cons px_int xa_nil)))))) (sx_cons (sx_for (passes_of rfl) rfl (pix_range1 fx.b_range (px_var 2)) (pgx_name 3 sc__law_rows.nd) (sx_cons (sx_set sc__law_rows.nd (px_tup (xa_cons px_str (xa_cons (px_ix fx.hG (room_u hr) (px_lst (xa_cons px_str (xa_cons px_str xa_nil))) (px_fz (pxt_call ((ok__law_choice fx).mono (by decide)) hr (takes_of rfl rfl rfl rfl) (xa_cons (px_var 0) (xa_cons px_int xa_nil))))) xa_nil)))) (sx_cons (sx_if (pt_gt8 (px_fz (pxt_call ((ok__law_choice fx).mono (by decide)) hr (takes_of rfl rfl rfl rfl) (xa_cons (px_var 0) (xa_cons px_int xa_nil)))) px_int) (sx_one (sx_set sc__law_rows.nd (px_fz (pxt_call ((ok__law_simple fx).mono (by decide)) hr (takes_of rfl rfl rfl rfl) (xa_cons (px_var 0) (xa_cons (px_lst (xa_cons px_int (xa_cons px_int xa_nil))) (xa_cons (px_lst (xa_cons px_int (xa_cons px_int xa_nil))) xa_nil))))))) (sx_one (sx_if (pt_eq8 (room_u hr) (px_fz (pxt_call ((ok__law_choice fx).mono (by decide)) hr (takes_of rfl rfl rfl rfl) (xa_cons (px_var 0) (xa_cons px_int xa_nil)))) px_int) (sx_one (sx_set sc__law_rows.nd (px_ix fx.hG (room_u hr) (px_lst (xa_cons (px_tup (xa_cons px_str (xa_cons px_str (xa_cons px_str xa_nil)))) (xa_cons (px_tup (xa_cons px_str (xa_cons px_int (xa_cons px_str xa_nil)))) (xa_cons (px_tup (xa_cons px_str (xa_cons px_str (xa_cons px_str (xa_cons px_str (xa_cons px_int xa_nil)))))) xa_nil)))) (px_fz (pxt_call ((ok__law_choice fx).mono (by decide)) hr (takes_of rfl rfl rfl rfl) (xa_cons (px_var 0) (xa_cons px_int xa_nil))))))) sx_nil))) (sx_cons (sx_set sc__law_rows.nd (px_tup (xa_cons (px_fz (pxt_call ((ok__law_onward fx).mono (by decide)) hr (takes_of rfl rfl rfl rfl) (xa_cons (px_var 0) (xa_cons (px_var 3) (xa_cons (px_var 2) xa_nil))))) xa_nil))) (sx_cons (sx_if (pt_eq8 (room_u hr) (px_ix fx.hG (room_u hr) (px_var 4) px_int) px_str) (sx_one (sx_set sc__law_rows.nd (px_add (px_var 5) (px_tup (xa_cons (px_fz (pxt_call ((ok__law_onward fx).mono (by decide)) hr (takes_of rfl rfl rfl rfl) (xa_cons (px_var 0) (xa_cons (px_var 3) (xa_cons (px_var 2) xa_nil))))) xa_nil))))) sx_nil) (sx_cons (sx_if (pt_val8 (px_call ((ok__law_marked fx).mono (by decide)) hr (takes_of rfl rfl rfl rfl) (xa_cons (px_var 4) xa_nil))) (sx_one (sx_set sc__law_rows.nd (px_add (px_var 4) (px_tup (xa_cons (px_ix fx.hG (room_u hr) (px_lst (xa_cons px_str (xa_cons px_str xa_nil))) (px_fz (pxt_call ((ok__law_choice fx).mono (by decide)) hr (takes_of rfl rfl rfl rfl) (xa_cons (px_var 0) (xa_cons px_int xa_nil))))) xa_nil))))) sx_nil) (sx_one (sx_app (px_tup (xa_cons (px_var 4) (xa_cons (px_var 5) xa_nil))))))))))) (sx_one (sx_ret (px_totuple fx.b_tuple (px_vw 1)))))))
noncomputable def m_is_chart : S8 := (sret (vand (m1 (gIsI "tuple") (mvar 0)) (m1 gAll (mlc (isrc (mvar 0)) (gset 1) tyes (mcall 2 F_are_points (mcons (m1 gLen (mvar 0)) (mcons (mvar 1) mnil))) [1]))))
noncomputable def F_is_chart : FF := runF 2 m_is_chart
theorem sc_is_chart : FnScope ["thing", "nexts"] ["thing"] (defScope (topS 10)) := ⟨rfl, rfl, rfl, by decide +kernel, rfl, by decide +kernel, by decide +kernel⟩
theorem ok_is_chart (fx : Fx w K mg) : Fd P w K mg base 4 "is_chart" 1 F_is_chart :=
  fd_of (k := 3) fx.f_is_chart sc_is_chart rfl (fun _ _ _ _ _ _ us hl => match us, hl with | [_], _ => rfl) fun f cdv A outer s H E hr =>
  (sx_one (sx_ret (px_and (px_isi kt_tuple (by decide +kernel) fx.b_tuple fx.b_isinstance (px_var 0)) (px_one (px_all rfl fx.b_all (px_lc rfl sc_is_chart.nd (pix_seq (px_var 0)) (blkOk_by (own := [("nexts", 1)]) (by rfl)) (fun _ _ _ _ _ => (pgx_name 1 sc_is_chart.nd)) (fun _ _ _ _ _ => ptx_nil) (fun _ _ _ _ _ => (px_call ((ok_are_points fx).mono (by decide)) hr takes0 (xa_cons (px_len fx.b_len (px_var 0)) (xa_cons (px_var 1) xa_nil))))))))))
noncomputable def m_is_part : S8 := (sseq (sif (mtb (mbin gEq (mvar 2) (mret (.str "a")))) (sret (mcall 1 F_is_number_name (mcons (mvar 3) mnil))) snext) (sseq (sif (mtb (mbin gEq (mvar 2) (mret (.str "g")))) (sret (mcall 1 F_is_graph_name (mcons (mvar 3) mnil))) snext) (sseq (sif (mtb (mbin gEq (mvar 2) (mret (.str "n")))) (sret (mcall 1 F_is_number (mcons (mvar 3) mnil))) snext) (sseq (sif (mtb (mbin gEq (mvar 2) (mret (.str "o")))) (sret (mcall 1 F_is_op (mcons (mvar 3) mnil))) snext) (sseq (sif (mtb (mbin gEq (mvar 2) (mret (.str "k")))) (sret (mcall 3 F_is_within (mcons (mvar 3) (mcons (mret (.int 0)) (mcons (mbin gSub (mret c_PLACES) (mret (.int 1))) mnil))))) snext) (sseq (sif (mtb (mbin gEq (mvar 2) (mret (.str "s")))) (sret (mcall 4 F_is_end_of (mcons (mvar 0) (mcons (mvar 3) (mcons (mvar 1) (mcons (mret (.int 0)) mnil)))))) snext) (sret (mcall 4 F_is_end_of (mcons (mvar 0) (mcons (mvar 3) (mcons (mvar 1) (mcons (mret (.int 1)) mnil))))))))))))
noncomputable def F_is_part : FF := runF 4 m_is_part
theorem sc_is_part : FnScope ["channels", "actor", "form", "thing"] ["channels", "actor", "form", "thing"] (defScope (topS 38)) := ⟨rfl, rfl, rfl, by decide +kernel, rfl, by decide +kernel, by decide +kernel⟩
theorem ok_is_part (fx : Fx w K mg) : Fd P w K mg base 4 "is_part" 4 F_is_part :=
  fd_of (k := 3) fx.f_is_part sc_is_part rfl (fun _ _ _ _ _ _ us hl => match us, hl with | [_, _, _, _], _ => rfl) fun f cdv A outer s H E hr =>
  (sx_cons (sx_if (pt_eq8 (room_u hr) (px_var 2) px_str) (sx_one (sx_ret (px_call ((ok_is_number_name fx).mono (by decide)) hr (takes_of rfl rfl rfl rfl) (xa_cons (px_var 3) xa_nil)))) sx_nil) (sx_cons (sx_if (pt_eq8 (room_u hr) (px_var 2) px_str) (sx_one (sx_ret (px_call ((ok_is_graph_name fx).mono (by decide)) hr (takes_of rfl rfl rfl rfl) (xa_cons (px_var 3) xa_nil)))) sx_nil) (sx_cons (sx_if (pt_eq8 (room_u hr) (px_var 2) px_str) (sx_one (sx_ret (px_call ((ok_is_number fx).mono (by decide)) hr (takes_of rfl rfl rfl rfl) (xa_cons (px_var 3) xa_nil)))) sx_nil) (sx_cons (sx_if (pt_eq8 (room_u hr) (px_var 2) px_str) (sx_one (sx_ret (px_call ((ok_is_op fx).mono (by decide)) hr (takes_of rfl rfl rfl rfl) (xa_cons (px_var 3) xa_nil)))) sx_nil) (sx_cons (sx_if (pt_eq8 (room_u hr) (px_var 2) px_str) (sx_one (sx_ret (px_call ((ok_is_within fx).mono (by decide)) hr (takes_of rfl rfl rfl rfl) (xa_cons (px_var 3) (xa_cons px_int (xa_cons (px_sub (px_g fx.c_PLACES) px_int) xa_nil)))))) sx_nil) (sx_cons (sx_if (pt_eq8 (room_u hr) (px_var 2) px_str) (sx_one (sx_ret (px_call ((ok_is_end_of fx).mono (by decide)) hr (takes_of rfl rfl rfl rfl) (xa_cons (px_var 0) (xa_cons (px_var 3) (xa_cons (px_var 1) (xa_cons px_int xa_nil))))))) sx_nil) (sx_one (sx_ret (px_call ((ok_is_end_of fx).mono (by decide)) hr (takes_of rfl rfl rfl rfl) (xa_cons (px_var 0) (xa_cons (px_var 3) (xa_cons (px_var 1) (xa_cons px_int xa_nil)))))))))))))
noncomputable def m_paper_by_row : S8 := (sseq (sasg (gtup 3 (gcons (gset 2) (gcons (gset 3) (gcons (gset 4) gnil)))) (mcall 2 F_case_by (mcons (mvar 0) (mcons (mvar 1) mnil)))) (sret (mcall 3 F_paper_by (mcons (mvar 2) (mcons (mvar 3) (mcons (mvar 4) mnil))))))
noncomputable def F_paper_by_row : FF := runF 5 m_paper_by_row
theorem sc_paper_by_row : FnScope ["rows", "row", "chart", "starts", "goals"] ["rows", "row"] (defScope (topS 63)) := ⟨rfl, rfl, rfl, by decide +kernel, rfl, by decide +kernel, by decide +kernel⟩
theorem ok_paper_by_row (fx : Fx w K mg) : Fd P w K mg base 4 "paper_by_row" 2 F_paper_by_row :=
  fd_of (k := 3) fx.f_paper_by_row sc_paper_by_row rfl (fun _ _ _ _ _ _ us hl => match us, hl with | [_, _], _ => rfl) fun f cdv A outer s H E hr =>
  (sx_cons (sx_asg (px_call ((ok_case_by fx).mono (by decide)) hr (takes_of rfl rfl rfl rfl) (xa_cons (px_var 0) (xa_cons (px_var 1) xa_nil))) (pgx_tup rfl (pgx_cons (pgx_name 2 sc_paper_by_row.nd) (pgx_cons (pgx_name 3 sc_paper_by_row.nd) (pgx_cons (pgx_name 4 sc_paper_by_row.nd) pgx_nil))))) (sx_one (sx_ret (px_call ((ok_paper_by fx).mono (by decide)) hr (takes_of rfl rfl rfl rfl) (xa_cons (px_var 2) (xa_cons (px_var 3) (xa_cons (px_var 4) xa_nil)))))))
noncomputable def m_need_chart : S8 := (sif (tnot (mtb (mcall 1 F_is_chart (mcons (mvar 0) mnil)))) (sraise "NoChart") snext)
noncomputable def F_need_chart : FF := runF 1 m_need_chart
theorem sc_need_chart : FnScope ["chart"] ["chart"] (defScope (topS 11)) := ⟨rfl, rfl, rfl, by decide +kernel, rfl, by decide +kernel, by decide +kernel⟩
theorem ok_need_chart (fx : Fx w K mg) : Fd P w K mg base 5 "need_chart" 1 F_need_chart :=
  fd_of (k := 4) fx.f_need_chart sc_need_chart rfl (fun _ _ _ _ _ _ us hl => match us, hl with | [_], _ => rfl) fun f cdv A outer s H E hr =>
  (sx_one (sx_if (xt_not (pt_val8 (px_call ((ok_is_chart fx).mono (by decide)) hr (takes_of rfl rfl rfl rfl) (xa_cons (px_var 0) xa_nil)))) (sx_one (sx_raise fx.x_NoChart rfl (takes_of rfl rfl rfl rfl))) sx_nil))
noncomputable def m_is_deed : S8 := (sseq (sif (tor (tnot (mtb (mcall 1 F_has_word (mcons (mvar 2) mnil)))) (mtb (mbin gNe (m1 gLen (mvar 2)) (mbin gAdd (mret (.int 1)) (m1 gLen (mbin (gIx G) (mret c_FORMS) (mbin (gIx G) (mvar 2) (mret (.int 0))))))))) (sret (mret (.bl false))) snext) (sseq (sasg (gstar 1 (gcons (gset 3) (gcons (gset 4) gnil))) (mvar 2)) (sseq (sset 5 (mlc (izip (mbin (gIx G) (mret c_FORMS) (mvar 3)) (mvar 4)) (gtup 2 (gcons (gset 8) (gcons (gset 9) gnil))) (mtb (mbin gNe (mvar 8) (mret (.str "b")))) (mtup (mcons (mvar 8) (mcons (mvar 9) mnil))) [8, 9])) (sseq (sif (tnot (mtb (m1 gAll (mlc (isrc (mvar 5)) (gtup 2 (gcons (gset 8) (gcons (gset 9) gnil))) tyes (mcall 4 F_is_part (mcons (mvar 0) (mcons (mvar 1) (mcons (mvar 8) (mcons (mvar 9) mnil))))) [8, 9])))) (sret (mret (.bl false))) snext) (sseq (sif (mtb (mbin (gNotIn G) (mvar 3) (mret c_UNLIKE))) (sret (mret (.bl true))) snext) (sseq (sasg (gtup 2 (gcons (gset 6) (gcons (gset 7) gnil))) (mbin (gIx G) (mret c_UNLIKE) (mvar 3))) (sret (mbin gNe (mbin (gIx G) (mvar 2) (mvar 6)) (mbin (gIx G) (mvar 2) (mvar 7))))))))))
noncomputable def F_is_deed : FF := runF 10 m_is_deed
theorem sc_is_deed : FnScope ["channels", "actor", "thing", "word", "parts", "pairs", "one", "other", "form", "part"] ["channels", "actor", "thing"] (defScope (topS 40)) := ⟨rfl, rfl, rfl, by decide +kernel, rfl, by decide +kernel, by decide +kernel⟩
theorem ok_is_deed (fx : Fx w K mg) : Fd P w K mg base 5 "is_deed" 3 F_is_deed :=
  fd_of (k := 4) fx.f_is_deed sc_is_deed rfl (fun _ _ _ _ _ _ us hl => match us, hl with | [_, _, _], _ => rfl) fun f cdv A outer s H E hr =>
  (sx_cons (sx_if (xt_w (xw_or (xt_not (pt_val8 (px_call ((ok_has_word fx).mono (by decide)) hr (takes_of rfl rfl rfl rfl) (xa_cons (px_var 2) xa_nil)))) (xw_or1 (pt_ne8 (room_u hr) (px_len fx.b_len (px_var 2)) (px_add px_int (px_len fx.b_len (px_ix fx.hG (room_u hr) (px_g fx.c_FORMS) (px_ix fx.hG (room_u hr) (px_var 2) px_int)))))))) (sx_one (sx_ret px_bl)) sx_nil) (sx_cons (sx_asg (px_var 2) (pgx_tupS rfl (pgx_cons (pgx_name 3 sc_is_deed.nd) (pgx_star1 (pgx_name 4 sc_is_deed.nd))))) (sx_cons (sx_setLc rfl sc_is_deed.nd (pix_zip fx.b_zip (px_ix fx.hG (room_u hr) (px_g fx.c_FORMS) (px_var 3)) (px_var 4)) (blkOk_by (own := [("form", 8), ("part", 9)]) (by rfl)) (fun _ _ _ _ _ => (pgx_tup rfl (pgx_cons (pgx_name 8 sc_is_deed.nd) (pgx_cons (pgx_name 9 sc_is_deed.nd) pgx_nil)))) (fun _ _ _ _ _ => (ptx_one (pt_ne8 (room_u hr) (px_var 8) px_str))) (fun _ _ _ _ _ => (px_tup (xa_cons (px_var 8) (xa_cons (px_var 9) xa_nil))))) (sx_cons (sx_if (xt_not (pt_val8 (px_all rfl fx.b_all (px_lc rfl sc_is_deed.nd (pix_seq (px_var 5)) (blkOk_by (own := [("form", 8), ("part", 9)]) (by rfl)) (fun _ _ _ _ _ => (pgx_tup rfl (pgx_cons (pgx_name 8 sc_is_deed.nd) (pgx_cons (pgx_name 9 sc_is_deed.nd) pgx_nil)))) (fun _ _ _ _ _ => ptx_nil) (fun _ _ _ _ _ => (px_call ((ok_is_part fx).mono (by decide)) hr takes0 (xa_cons (px_var 0) (xa_cons (px_var 1) (xa_cons (px_var 8) (xa_cons (px_var 9) xa_nil)))))))))) (sx_one (sx_ret px_bl)) sx_nil) (sx_cons (sx_if (pt_notin8 fx.hG (room_u hr) (px_var 3) (px_g fx.c_UNLIKE)) (sx_one (sx_ret px_bl)) sx_nil) (sx_cons (sx_asg (px_ix fx.hG (room_u hr) (px_g fx.c_UNLIKE) (px_var 3)) (pgx_tup rfl (pgx_cons (pgx_name 6 sc_is_deed.nd) (pgx_cons (pgx_name 7 sc_is_deed.nd) pgx_nil)))) (sx_one (sx_ret (px_ne (room_u hr) (px_ix fx.hG (room_u hr) (px_var 2) (px_var 6)) (px_ix fx.hG (room_u hr) (px_var 2) (px_var 7)))))))))))
noncomputable def m_copies_by : S8 := (sseq (sset 1 (mlc (ienum (mvar 0)) (gtup 2 (gcons (gset 2) (gcons (gset 3) gnil))) (mtb (mbin (gIn G) (mbin (gIx G) (mbin (gIx G) (mvar 3) (mret (.int 0))) (mret (.int 0))) (mret c_SPENT))) (mvar 2) [2, 3])) (sret (m1 gTuple (mlc (isrc (mvar 1)) (gset 2) (mtb (mbin gEq (mbin (gIx G) (mcall 2 F_paper_by_row (mcons (mvar 0) (mcons (mvar 2) mnil))) (mret (.int 0))) (mret (.str "way")))) (mvar 2) [2]))))
noncomputable def F_copies_by : FF := runF 4 m_copies_by
theorem sc_copies_by : FnScope ["rows", "some", "at", "row"] ["rows"] (defScope (topS 65)) := ⟨rfl, rfl, rfl, by decide +kernel, rfl, by decide +kernel, by decide +kernel⟩
theorem ok_copies_by (fx : Fx w K mg) : Fd P w K mg base 5 "copies_by" 1 F_copies_by :=
  fd_of (k := 4) fx.f_copies_by sc_copies_by rfl (fun _ _ _ _ _ _ us hl => match us, hl with | [_], _ => rfl) fun f cdv A outer s H E hr =>
  (sx_cons (sx_setLc rfl sc_copies_by.nd (pix_enum fx.b_enumerate (px_var 0)) (blkOk_by (own := [("at", 2), ("row", 3)]) (by rfl)) (fun _ _ _ _ _ => (pgx_tup rfl (pgx_cons (pgx_name 2 sc_copies_by.nd) (pgx_cons (pgx_name 3 sc_copies_by.nd) pgx_nil)))) (fun _ _ _ _ _ => (ptx_one (pt_in8 fx.hG (room_u hr) (px_ix fx.hG (room_u hr) (px_ix fx.hG (room_u hr) (px_var 3) px_int) px_int) (px_g fx.c_SPENT)))) (fun _ _ _ _ _ => (px_var 2))) (sx_one (sx_ret (px_totuple fx.b_tuple (px_lc rfl sc_copies_by.nd (pix_seq (px_var 1)) (blkOk_by (own := [("at", 2)]) (by rfl)) (fun _ _ _ _ _ => (pgx_name 2 sc_copies_by.nd)) (fun _ _ _ _ _ => (ptx_one (pt_eq8 (room_u hr) (px_ix fx.hG (room_u hr) (px_call ((ok_paper_by_row fx).mono (by decide)) hr takes0 (xa_cons (px_var 0) (xa_cons (px_var 2) xa_nil))) px_int) px_str))) (fun _ _ _ _ _ => (px_var 2)))))))
noncomputable def m_need_all : S8 := (sseq (sdrop (mcall 1 F_need_chart (mcons (mvar 0) mnil))) (sif (tor (tnot (mtb (mcall 2 F_are_points (mcons (m1 gLen (mvar 0)) (mcons (mvar 1) mnil))))) (tnot (mtb (mcall 2 F_are_points (mcons (m1 gLen (mvar 0)) (mcons (mvar 2) mnil)))))) (sraise "NoPoints") snext))
noncomputable def F_need_all : FF := runF 3 m_need_all
theorem sc_need_all : FnScope ["chart", "starts", "goals"] ["chart", "starts", "goals"] (defScope (topS 12)) := ⟨rfl, rfl, rfl, by decide +kernel, rfl, by decide +kernel, by decide +kernel⟩
theorem ok_need_all (fx : Fx w K mg) : Fd P w K mg base 6 "need_all" 3 F_need_all :=
  fd_of (k := 5) fx.f_need_all sc_need_all rfl (fun _ _ _ _ _ _ us hl => match us, hl with | [_, _, _], _ => rfl) fun f cdv A outer s H E hr =>
  (sx_cons (sx_expr (px_call ((ok_need_chart fx).mono (by decide)) hr (takes_of rfl rfl rfl rfl) (xa_cons (px_var 0) xa_nil))) (sx_one (sx_if (xt_w (xw_or (xt_not (pt_val8 (px_call ((ok_are_points fx).mono (by decide)) hr (takes_of rfl rfl rfl rfl) (xa_cons (px_len fx.b_len (px_var 0)) (xa_cons (px_var 1) xa_nil))))) (xw_or1 (xt_not (pt_val8 (px_call ((ok_are_points fx).mono (by decide)) hr (takes_of rfl rfl rfl rfl) (xa_cons (px_len fx.b_len (px_var 0)) (xa_cons (px_var 2) xa_nil)))))))) (sx_one (sx_raise fx.x_NoPoints rfl (takes_of rfl rfl rfl rfl))) sx_nil)))
noncomputable def m_is_row_deed : S8 := (sseq (sif (tor (tnot (mtb (m1 (gIsI "tuple") (mvar 2)))) (tor (mtb (mbin gEq (mvar 2) (mtup mnil))) (tnot (mtb (m1 (gIsI "str") (mbin (gIx G) (mvar 2) (mret (.int 0)))))))) (sret (mret (.bl false))) snext) (sseq (sif (mtb (mbin gEq (mbin (gIx G) (mvar 2) (mret (.int 0))) (mret (.str "test")))) (sret (vand (mbin gEq (m1 gLen (mvar 2)) (mret (.int 2))) (mcall 1 F_is_number_name (mcons (mbin (gIx G) (mvar 2) (mret (.int 1))) mnil)))) snext) (sseq (sif (mtb (mbin (gIn G) (mbin (gIx G) (mvar 2) (mret (.int 0))) (mret c_MARKED))) (sret (vand (m1 (gIsI "str") (mbin (gIx G) (mvar 2) (m1 gNeg (mret (.int 1))))) (vand (mbin (gIn G) (mbin (gIx G) (mvar 2) (m1 gNeg (mret (.int 1)))) (mret c_MARKS)) (mcall 3 F_is_deed (mcons (mvar 0) (mcons (mvar 1) (mcons (msl (mvar 2) none (some (m1 gNeg (mret (.int 1))))) mnil))))))) snext) (sret (vand (mbin (gNotIn G) (mbin (gIx G) (mvar 2) (mret (.int 0))) (mret c_BLOCKED)) (mcall 3 F_is_deed (mcons (mvar 0) (mcons (mvar 1) (mcons (mvar 2) mnil)))))))))
noncomputable def F_is_row_deed : FF := runF 3 m_is_row_deed
theorem sc_is_row_deed : FnScope ["channels", "actor", "thing"] ["channels", "actor", "thing"] (defScope (topS 46)) := ⟨rfl, rfl, rfl, by decide +kernel, rfl, by decide +kernel, by decide +kernel⟩
theorem ok_is_row_deed (fx : Fx w K mg) : Fd P w K mg base 6 "is_row_deed" 3 F_is_row_deed :=
  fd_of (k := 5) fx.f_is_row_deed sc_is_row_deed rfl (fun _ _ _ _ _ _ us hl => match us, hl with | [_, _, _], _ => rfl) fun f cdv A outer s H E hr =>
  (sx_cons (sx_if (xt_w (xw_or (xt_not (pt_val8 (px_isi kt_tuple (by decide +kernel) fx.b_tuple fx.b_isinstance (px_var 2)))) (xw_or (pt_eq8 (room_u hr) (px_var 2) (px_tup xa_nil)) (xw_or1 (xt_not (pt_val8 (px_isi kt_str (by decide +kernel) fx.b_str fx.b_isinstance (px_ix fx.hG (room_u hr) (px_var 2) px_int)))))))) (sx_one (sx_ret px_bl)) sx_nil) (sx_cons (sx_if (pt_eq8 (room_u hr) (px_ix fx.hG (room_u hr) (px_var 2) px_int) px_str) (sx_one (sx_ret (px_and (px_eq (room_u hr) (px_len fx.b_len (px_var 2)) px_int) (px_one (px_call ((ok_is_number_name fx).mono (by decide)) hr (takes_of rfl rfl rfl rfl) (xa_cons (px_ix fx.hG (room_u hr) (px_var 2) px_int) xa_nil)))))) sx_nil) (sx_cons (sx_if (pt_in8 fx.hG (room_u hr) (px_ix fx.hG (room_u hr) (px_var 2) px_int) (px_g fx.c_MARKED)) (sx_one (sx_ret (px_and (px_isi kt_str (by decide +kernel) fx.b_str fx.b_isinstance (px_ix fx.hG (room_u hr) (px_var 2) (px_neg px_int))) (px_and (px_in fx.hG (room_u hr) (px_ix fx.hG (room_u hr) (px_var 2) (px_neg px_int)) (px_g fx.c_MARKS)) (px_one (px_call ((ok_is_deed fx).mono (by decide)) hr (takes_of rfl rfl rfl rfl) (xa_cons (px_var 0) (xa_cons (px_var 1) (xa_cons (px_sl2 (px_var 2) (px_neg px_int)) xa_nil))))))))) sx_nil) (sx_one (sx_ret (px_and (px_notin fx.hG (room_u hr) (px_ix fx.hG (room_u hr) (px_var 2) px_int) (px_g fx.c_BLOCKED)) (px_one (px_call ((ok_is_deed fx).mono (by decide)) hr (takes_of rfl rfl rfl rfl) (xa_cons (px_var 0) (xa_cons (px_var 1) (xa_cons (px_var 2) xa_nil)))))))))))
noncomputable def f1_unsafe_row : S8 := (sif (mtb (mbin gEq (mbin (gIx G) (mbin (gIx G) (mbin (gIx G) (mvar 0) (mvar 1)) (mret (.int 0))) (m1 gNeg (mret (.int 1)))) (mret c_GIVE))) (sret (mtup (mcons (mvar 1) (mcons (mbin (gIx G) (mcall 2 F_paper_by_row (mcons (mvar 0) (mcons (mvar 1) mnil))) (mret (.int 1))) mnil)))) snext)
noncomputable def m_unsafe_row : S8 := (sseq (sfor (isrc (mcall 1 F_copies_by (mcons (mvar 0) mnil))) (gset 1) f1_unsafe_row) (sret (mret .non)))
noncomputable def F_unsafe_row : FF := runF 2 m_unsafe_row
theorem sc_unsafe_row : FnScope ["rows", "at"] ["rows"] (defScope (topS 67)) := ⟨rfl, rfl, rfl, by decide +kernel, rfl, by decide +kernel, by decide +kernel⟩
theorem ok_unsafe_row (fx : Fx w K mg) : Fd P w K mg base 6 "unsafe_row" 1 F_unsafe_row :=
  fd_of (k := 5) fx.f_unsafe_row sc_unsafe_row rfl (fun _ _ _ _ _ _ us hl => match us, hl with | [_], _ => rfl) fun f cdv A outer s H E hr =>
  (sx_cons (sx_for (passes_of rfl) rfl (pix_seq (px_call ((ok_copies_by fx).mono (by decide)) hr (takes_of rfl rfl rfl rfl) (xa_cons (px_var 0) xa_nil))) (pgx_name 1 sc_unsafe_row.nd) (sx_one (sx_if (pt_eq8 (room_u hr) (px_ix fx.hG (room_u hr) (px_ix fx.hG (room_u hr) (px_ix fx.hG (room_u hr) (px_var 0) (px_var 1)) px_int) (px_neg px_int)) (px_g fx.c_GIVE)) (sx_one (sx_ret (px_tup (xa_cons (px_var 1) (xa_cons (px_ix fx.hG (room_u hr) (px_call ((ok_paper_by_row fx).mono (by decide)) hr (takes_of rfl rfl rfl rfl) (xa_cons (px_var 0) (xa_cons (px_var 1) xa_nil))) px_int) xa_nil))))) sx_nil))) (sx_one (sx_ret px_non)))
noncomputable def m_is_way : S8 := (sseq (sdrop (mcall 3 F_need_all (mcons (mvar 0) (mcons (mvar 1) (mcons (mvar 2) mnil))))) (sret (vand (mcall 2 F_is_row_of_points (mcons (mvar 0) (mcons (mvar 3) mnil))) (vand (mbin (gIn G) (mbin (gIx G) (mvar 3) (mret (.int 0))) (mvar 1)) (mbin (gIn G) (mbin (gIx G) (mvar 3) (m1 gNeg (mret (.int 1)))) (mvar 2))))))
noncomputable def F_is_way : FF := runF 4 m_is_way
theorem sc_is_way : FnScope ["chart", "starts", "goals", "thing"] ["chart", "starts", "goals", "thing"] (defScope (topS 14)) := ⟨rfl, rfl, rfl, by decide +kernel, rfl, by decide +kernel, by decide +kernel⟩
theorem ok_is_way (fx : Fx w K mg) : Fd P w K mg base 7 "is_way" 4 F_is_way :=
  fd_of (k := 6) fx.f_is_way sc_is_way rfl (fun _ _ _ _ _ _ us hl => match us, hl with | [_, _, _, _], _ => rfl) fun f cdv A outer s H E hr =>
  (sx_cons (sx_expr (px_call ((ok_need_all fx).mono (by decide)) hr (takes_of rfl rfl rfl rfl) (xa_cons (px_var 0) (xa_cons (px_var 1) (xa_cons (px_var 2) xa_nil))))) (sx_one (sx_ret (px_and (px_call ((ok_is_row_of_points fx).mono (by decide)) hr (takes_of rfl rfl rfl rfl) (xa_cons (px_var 0) (xa_cons (px_var 3) xa_nil))) (px_and (px_in fx.hG (room_u hr) (px_ix fx.hG (room_u hr) (px_var 3) px_int) (px_var 1)) (px_one (px_in fx.hG (room_u hr) (px_ix fx.hG (room_u hr) (px_var 3) (px_neg px_int)) (px_var 2))))))))
noncomputable def m_is_bar : S8 := (sseq (sdrop (mcall 3 F_need_all (mcons (mvar 0) (mcons (mvar 1) (mcons (mvar 2) mnil))))) (sseq (sif (tor (tnot (mtb (mcall 2 F_are_points (mcons (m1 gLen (mvar 0)) (mcons (mvar 3) mnil))))) (tnot (mtb (m1 gAll (mlc (isrc (mvar 1)) (gset 4) tyes (mbin (gIn G) (mvar 4) (mvar 3)) [4]))))) (sret (mret (.bl false))) snext) (sseq (sif (mtb (m1 gAny (mlc (isrc (mvar 2)) (gset 4) tyes (mbin (gIn G) (mvar 4) (mvar 3)) [4]))) (sret (mret (.bl false))) snext) (sret (m1 gAll (mlc2 (isrc (mvar 3)) (gset 4) tyes (isrc (mbin (gIx G) (mvar 0) (mvar 4))) (gset 5) tyes (mbin (gIn G) (mvar 5) (mvar 3)) [4, 5] [5]))))))
noncomputable def F_is_bar : FF := runF 6 m_is_bar
theorem sc_is_bar : FnScope ["chart", "starts", "goals", "thing", "one", "other"] ["chart", "starts", "goals", "thing"] (defScope (topS 15)) := ⟨rfl, rfl, rfl, by decide +kernel, rfl, by decide +kernel, by decide +kernel⟩
theorem ok_is_bar (fx : Fx w K mg) : Fd P w K mg base 7 "is_bar" 4 F_is_bar :=
  fd_of (k := 6) fx.f_is_bar sc_is_bar rfl (fun _ _ _ _ _ _ us hl => match us, hl with | [_, _, _, _], _ => rfl) fun f cdv A outer s H E hr =>
  (sx_cons (sx_expr (px_call ((ok_need_all fx).mono (by decide)) hr (takes_of rfl rfl rfl rfl) (xa_cons (px_var 0) (xa_cons (px_var 1) (xa_cons (px_var 2) xa_nil))))) (sx_cons (sx_if (xt_w (xw_or (xt_not (pt_val8 (px_call ((ok_are_points fx).mono (by decide)) hr (takes_of rfl rfl rfl rfl) (xa_cons (px_len fx.b_len (px_var 0)) (xa_cons (px_var 3) xa_nil))))) (xw_or1 (xt_not (pt_val8 (px_all rfl fx.b_all (px_lc rfl sc_is_bar.nd (pix_seq (px_var 1)) (blkOk_by (own := [("one", 4)]) (by rfl)) (fun _ _ _ _ _ => (pgx_name 4 sc_is_bar.nd)) (fun _ _ _ _ _ => ptx_nil) (fun _ _ _ _ _ => (px_in fx.hG (room_u hr) (px_var 4) (px_var 3)))))))))) (sx_one (sx_ret px_bl)) sx_nil) (sx_cons (sx_if (pt_val8 (px_any rfl fx.b_any (px_lc rfl sc_is_bar.nd (pix_seq (px_var 2)) (blkOk_by (own := [("one", 4)]) (by rfl)) (fun _ _ _ _ _ => (pgx_name 4 sc_is_bar.nd)) (fun _ _ _ _ _ => ptx_nil) (fun _ _ _ _ _ => (px_in fx.hG (room_u hr) (px_var 4) (px_var 3)))))) (sx_one (sx_ret px_bl)) sx_nil) (sx_one (sx_ret (px_all rfl fx.b_all (px_lc2 (vs1 := [5]) rfl sc_is_bar.nd (pix_seq (px_var 3)) (blkOk_by (own := [("one", 4), ("other", 5)]) (by rfl)) (fun _ _ _ _ _ => (pgx_name 4 sc_is_bar.nd)) (fun _ _ _ _ _ => ptx_nil) (fun _ _ _ _ _ => (pix_seq (px_ix fx.hG (room_u hr) (px_var 0) (px_var 4)))) (fun _ _ _ _ _ => (pgx_name 5 sc_is_bar.nd)) (fun _ _ _ _ _ => ptx_nil) (fun _ _ _ _ _ => (px_in fx.hG (room_u hr) (px_var 5) (px_var 3))))))))))
noncomputable def m_paper : S8 := (sseq (sdrop (mcall 3 F_need_all (mcons (mvar 0) (mcons (mvar 1) (mcons (mvar 2) mnil))))) (sret (mcall 3 F_paper_by (mcons (mvar 0) (mcons (mvar 1) (mcons (mvar 2) mnil))))))
noncomputable def F_paper : FF := runF 3 m_paper
theorem sc_paper : FnScope ["chart", "starts", "goals"] ["chart", "starts", "goals"] (defScope (topS 20)) := ⟨rfl, rfl, rfl, by decide +kernel, rfl, by decide +kernel, by decide +kernel⟩
theorem ok_paper (fx : Fx w K mg) : Fd P w K mg base 7 "paper" 3 F_paper :=
  fd_of (k := 6) fx.f_paper sc_paper rfl (fun _ _ _ _ _ _ us hl => match us, hl with | [_, _, _], _ => rfl) fun f cdv A outer s H E hr =>
  (sx_cons (sx_expr (px_call ((ok_need_all fx).mono (by decide)) hr (takes_of rfl rfl rfl rfl) (xa_cons (px_var 0) (xa_cons (px_var 1) (xa_cons (px_var 2) xa_nil))))) (sx_one (sx_ret (px_call ((ok_paper_by fx).mono (by decide)) hr (takes_of rfl rfl rfl rfl) (xa_cons (px_var 0) (xa_cons (px_var 1) (xa_cons (px_var 2) xa_nil)))))))
noncomputable def m_is_row : S8 := (sseq (sif (tor (tnot (mtb (m1 (gIsI "tuple") (mvar 3)))) (tor (mtb (mbin gNe (m1 gLen (mvar 3)) (mret (.int 2)))) (tnot (mtb (mcall 3 F_is_row_deed (mcons (mvar 0) (mcons (mvar 1) (mcons (mbin (gIx G) (mvar 3) (mret (.int 0))) mnil)))))))) (sret (mret (.bl false))) snext) (sseq (sasg (gtup 2 (gcons (gset 4) (gcons (gset 5) gnil))) (mvar 3)) (sseq (sif (tor (tnot (mtb (m1 (gIsI "tuple") (mvar 5)))) (mtb (mbin gNe (m1 gLen (mvar 5)) (mbin gAdd (mret (.int 1)) (m1 gInt (mbin gEq (mbin (gIx G) (mvar 4) (mret (.int 0))) (mret (.str "test")))))))) (sret (mret (.bl false))) snext) (sret (m1 gAll (mlc (isrc (mvar 5)) (gset 6) tyes (mcall 3 F_is_within (mcons (mvar 6) (mcons (mret c_END) (mcons (mbin gSub (mvar 2) (mret (.int 1))) mnil)))) [6]))))))
noncomputable def F_is_row : FF := runF 7 m_is_row
theorem sc_is_row : FnScope ["channels", "actor", "many", "thing", "deed", "nexts", "one"] ["channels", "actor", "many", "thing"] (defScope (topS 47)) := ⟨rfl, rfl, rfl, by decide +kernel, rfl, by decide +kernel, by decide +kernel⟩
theorem ok_is_row (fx : Fx w K mg) : Fd P w K mg base 7 "is_row" 4 F_is_row :=
  fd_of (k := 6) fx.f_is_row sc_is_row rfl (fun _ _ _ _ _ _ us hl => match us, hl with | [_, _, _, _], _ => rfl) fun f cdv A outer s H E hr =>
  (sx_cons (sx_if (xt_w (xw_or (xt_not (pt_val8 (px_isi kt_tuple (by decide +kernel) fx.b_tuple fx.b_isinstance (px_var 3)))) (xw_or (pt_ne8 (room_u hr) (px_len fx.b_len (px_var 3)) px_int) (xw_or1 (xt_not (pt_val8 (px_call ((ok_is_row_deed fx).mono (by decide)) hr (takes_of rfl rfl rfl rfl) (xa_cons (px_var 0) (xa_cons (px_var 1) (xa_cons (px_ix fx.hG (room_u hr) (px_var 3) px_int) xa_nil)))))))))) (sx_one (sx_ret px_bl)) sx_nil) (sx_cons (sx_asg (px_var 3) (pgx_tup rfl (pgx_cons (pgx_name 4 sc_is_row.nd) (pgx_cons (pgx_name 5 sc_is_row.nd) pgx_nil)))) (sx_cons (sx_if (xt_w (xw_or (xt_not (pt_val8 (px_isi kt_tuple (by decide +kernel) fx.b_tuple fx.b_isinstance (px_var 5)))) (xw_or1 (pt_ne8 (room_u hr) (px_len fx.b_len (px_var 5)) (px_add px_int (px_toint fx.b_int (px_eq (room_u hr) (px_ix fx.hG (room_u hr) (px_var 4) px_int) px_str))))))) (sx_one (sx_ret px_bl)) sx_nil) (sx_one (sx_ret (px_all rfl fx.b_all (px_lc rfl sc_is_row.nd (pix_seq (px_var 5)) (blkOk_by (own := [("one", 6)]) (by rfl)) (fun _ _ _ _ _ => (pgx_name 6 sc_is_row.nd)) (fun _ _ _ _ _ => ptx_nil) (fun _ _ _ _ _ => (px_call ((ok_is_within fx).mono (by decide)) hr takes0 (xa_cons (px_var 6) (xa_cons (px_g fx.c_END) (xa_cons (px_sub (px_var 2) px_int) xa_nil))))))))))))
noncomputable def m_are_rows : S8 := (sseq (sif (tor (tnot (mtb (m1 (gIsI "tuple") (mvar 2)))) (mtb (mbin gGt (m1 gLen (mvar 2)) (mret c_MOST_STATEMENTS)))) (sret (mret (.bl false))) snext) (sret (m1 gAll (mlc (isrc (mvar 2)) (gset 3) tyes (mcall 4 F_is_row (mcons (mvar 0) (mcons (mvar 1) (mcons (m1 gLen (mvar 2)) (mcons (mvar 3) mnil))))) [3]))))
noncomputable def F_are_rows : FF := runF 4 m_are_rows
theorem sc_are_rows : FnScope ["channels", "actor", "thing", "one"] ["channels", "actor", "thing"] (defScope (topS 48)) := ⟨rfl, rfl, rfl, by decide +kernel, rfl, by decide +kernel, by decide +kernel⟩
theorem ok_are_rows (fx : Fx w K mg) : Fd P w K mg base 8 "are_rows" 3 F_are_rows :=
  fd_of (k := 7) fx.f_are_rows sc_are_rows rfl (fun _ _ _ _ _ _ us hl => match us, hl with | [_, _, _], _ => rfl) fun f cdv A outer s H E hr =>
  (sx_cons (sx_if (xt_w (xw_or (xt_not (pt_val8 (px_isi kt_tuple (by decide +kernel) fx.b_tuple fx.b_isinstance (px_var 2)))) (xw_or1 (pt_gt8 (px_len fx.b_len (px_var 2)) (px_g fx.c_MOST_STATEMENTS))))) (sx_one (sx_ret px_bl)) sx_nil) (sx_one (sx_ret (px_all rfl fx.b_all (px_lc rfl sc_are_rows.nd (pix_seq (px_var 2)) (blkOk_by (own := [("one", 3)]) (by rfl)) (fun _ _ _ _ _ => (pgx_name 3 sc_are_rows.nd)) (fun _ _ _ _ _ => ptx_nil) (fun _ _ _ _ _ => (px_call ((ok_is_row fx).mono (by decide)) hr takes0 (xa_cons (px_var 0) (xa_cons (px_var 1) (xa_cons (px_len fx.b_len (px_var 2)) (xa_cons (px_var 3) xa_nil)))))))))))
noncomputable def m_need_rows : S8 := (sseq (sif (tnot (mtb (mcall 3 F_are_rows (mcons (mret .non) (mcons (mret (.int 0)) (mcons (mvar 0) mnil)))))) (sraise "NoCode") snext) (sif (mtb (m1 gAny (mlc (isrc (mcall 2 F_ends_in (mcons (mvar 0) (mcons (mret (.str "send")) mnil)))) (gset 1) tyes (mbin (gIn G) (mvar 1) (mcall 2 F_ends_in (mcons (mvar 0) (mcons (mret (.str "take")) mnil)))) [1]))) (sraise "NoCode") snext))
noncomputable def F_need_rows : FF := runF 2 m_need_rows
theorem sc_need_rows : FnScope ["rows", "number"] ["rows"] (defScope (topS 50)) := ⟨rfl, rfl, rfl, by decide +kernel, rfl, by decide +kernel, by decide +kernel⟩
theorem ok_need_rows (fx : Fx w K mg) : Fd P w K mg base 9 "need_rows" 1 F_need_rows :=
  fd_of (k := 8) fx.f_need_rows sc_need_rows rfl (fun _ _ _ _ _ _ us hl => match us, hl with | [_], _ => rfl) fun f cdv A outer s H E hr =>
  (sx_cons (sx_if (xt_not (pt_val8 (px_call ((ok_are_rows fx).mono (by decide)) hr (takes_of rfl rfl rfl rfl) (xa_cons px_non (xa_cons px_int (xa_cons (px_var 0) xa_nil)))))) (sx_one (sx_raise fx.x_NoCode rfl (takes_of rfl rfl rfl rfl))) sx_nil) (sx_one (sx_if (pt_val8 (px_any rfl fx.b_any (px_lc rfl sc_need_rows.nd (pix_seq (px_call ((ok_ends_in fx).mono (by decide)) hr (takes_of rfl rfl rfl rfl) (xa_cons (px_var 0) (xa_cons px_str xa_nil)))) (blkOk_by (own := [("number", 1)]) (by rfl)) (fun _ _ _ _ _ => (pgx_name 1 sc_need_rows.nd)) (fun _ _ _ _ _ => ptx_nil) (fun _ _ _ _ _ => (px_in fx.hG (room_u hr) (px_var 1) (px_call ((ok_ends_in fx).mono (by decide)) hr takes0 (xa_cons (px_var 0) (xa_cons px_str xa_nil)))))))) (sx_one (sx_raise fx.x_NoCode rfl (takes_of rfl rfl rfl rfl))) sx_nil)))
noncomputable def m_case_of : S8 := (sseq (sdrop (mcall 1 F_need_rows (mcons (mvar 0) mnil))) (sseq (sdrop (mcall 2 F_need_row (mcons (mvar 0) (mcons (mvar 1) mnil)))) (sret (mcall 2 F_case_by (mcons (mvar 0) (mcons (mvar 1) mnil))))))
noncomputable def F_case_of : FF := runF 2 m_case_of
theorem sc_case_of : FnScope ["rows", "row"] ["rows", "row"] (defScope (topS 62)) := ⟨rfl, rfl, rfl, by decide +kernel, rfl, by decide +kernel, by decide +kernel⟩
theorem ok_case_of (fx : Fx w K mg) : Fd P w K mg base 10 "case_of" 2 F_case_of :=
  fd_of (k := 9) fx.f_case_of sc_case_of rfl (fun _ _ _ _ _ _ us hl => match us, hl with | [_, _], _ => rfl) fun f cdv A outer s H E hr =>
  (sx_cons (sx_expr (px_call ((ok_need_rows fx).mono (by decide)) hr (takes_of rfl rfl rfl rfl) (xa_cons (px_var 0) xa_nil))) (sx_cons (sx_expr (px_call ((ok_need_row fx).mono (by decide)) hr (takes_of rfl rfl rfl rfl) (xa_cons (px_var 0) (xa_cons (px_var 1) xa_nil)))) (sx_one (sx_ret (px_call ((ok_case_by fx).mono (by decide)) hr (takes_of rfl rfl rfl rfl) (xa_cons (px_var 0) (xa_cons (px_var 1) xa_nil)))))))
noncomputable def m_paper_of : S8 := (sseq (sdrop (mcall 1 F_need_rows (mcons (mvar 0) mnil))) (sseq (sdrop (mcall 2 F_need_row (mcons (mvar 0) (mcons (mvar 1) mnil)))) (sret (mcall 2 F_paper_by_row (mcons (mvar 0) (mcons (mvar 1) mnil))))))
noncomputable def F_paper_of : FF := runF 2 m_paper_of
theorem sc_paper_of : FnScope ["rows", "row"] ["rows", "row"] (defScope (topS 64)) := ⟨rfl, rfl, rfl, by decide +kernel, rfl, by decide +kernel, by decide +kernel⟩
theorem ok_paper_of (fx : Fx w K mg) : Fd P w K mg base 10 "paper_of" 2 F_paper_of :=
  fd_of (k := 9) fx.f_paper_of sc_paper_of rfl (fun _ _ _ _ _ _ us hl => match us, hl with | [_, _], _ => rfl) fun f cdv A outer s H E hr =>
  (sx_cons (sx_expr (px_call ((ok_need_rows fx).mono (by decide)) hr (takes_of rfl rfl rfl rfl) (xa_cons (px_var 0) xa_nil))) (sx_cons (sx_expr (px_call ((ok_need_row fx).mono (by decide)) hr (takes_of rfl rfl rfl rfl) (xa_cons (px_var 0) (xa_cons (px_var 1) xa_nil)))) (sx_one (sx_ret (px_call ((ok_paper_by_row fx).mono (by decide)) hr (takes_of rfl rfl rfl rfl) (xa_cons (px_var 0) (xa_cons (px_var 1) xa_nil)))))))
noncomputable def m_must_copy : S8 := (sseq (sdrop (mcall 1 F_need_rows (mcons (mvar 0) mnil))) (sret (mcall 1 F_copies_by (mcons (mvar 0) mnil))))
noncomputable def F_must_copy : FF := runF 1 m_must_copy
theorem sc_must_copy : FnScope ["rows"] ["rows"] (defScope (topS 66)) := ⟨rfl, rfl, rfl, by decide +kernel, rfl, by decide +kernel, by decide +kernel⟩
theorem ok_must_copy (fx : Fx w K mg) : Fd P w K mg base 10 "must_copy" 1 F_must_copy :=
  fd_of (k := 9) fx.f_must_copy sc_must_copy rfl (fun _ _ _ _ _ _ us hl => match us, hl with | [_], _ => rfl) fun f cdv A outer s H E hr =>
  (sx_cons (sx_expr (px_call ((ok_need_rows fx).mono (by decide)) hr (takes_of rfl rfl rfl rfl) (xa_cons (px_var 0) xa_nil))) (sx_one (sx_ret (px_call ((ok_copies_by fx).mono (by decide)) hr (takes_of rfl rfl rfl rfl) (xa_cons (px_var 0) xa_nil)))))
noncomputable def m_unsafe : S8 := (sseq (sdrop (mcall 1 F_need_rows (mcons (mvar 0) mnil))) (sret (mcall 1 F_unsafe_row (mcons (mvar 0) mnil))))
noncomputable def F_unsafe : FF := runF 1 m_unsafe
theorem sc_unsafe : FnScope ["rows"] ["rows"] (defScope (topS 68)) := ⟨rfl, rfl, rfl, by decide +kernel, rfl, by decide +kernel, by decide +kernel⟩
theorem ok_unsafe (fx : Fx w K mg) : Fd P w K mg base 10 "unsafe" 1 F_unsafe :=
  fd_of (k := 9) fx.f_unsafe sc_unsafe rfl (fun _ _ _ _ _ _ us hl => match us, hl with | [_], _ => rfl) fun f cdv A outer s H E hr =>
  (sx_cons (sx_expr (px_call ((ok_need_rows fx).mono (by decide)) hr (takes_of rfl rfl rfl rfl) (xa_cons (px_var 0) xa_nil))) (sx_one (sx_ret (px_call ((ok_unsafe_row fx).mono (by decide)) hr (takes_of rfl rfl rfl rfl) (xa_cons (px_var 0) xa_nil)))))
noncomputable def m__law_row_right : S8 := (sseq (sasg (gtup 3 (gcons (gset 3) (gcons (gset 4) (gcons (gset 5) gnil)))) (mcall 2 F_case_of (mcons (mvar 0) (mcons (mvar 1) mnil)))) (sseq (sset 6 (mcall 2 F_paper_of (mcons (mvar 0) (mcons (mvar 1) mnil)))) (sseq (sif (tor (mtb (mbin gNe (mvar 6) (mcall 3 F_paper (mcons (mvar 3) (mcons (mvar 4) (mcons (mvar 5) mnil)))))) (mtb (mbin gNe (m1 gLen (mvar 6)) (mret (.int 2))))) (sret (mret (.bl false))) snext) (sseq (ssetT 7 (tmlst (mcons (mcall 4 F_is_way (mcons (mvar 3) (mcons (mvar 4) (mcons (mvar 5) (mcons (mbin (gIx G) (mvar 6) (mret (.int 1))) mnil))))) mnil))) (sseq (sapp 7 (mcall 4 F_is_bar (mcons (mvar 3) (mcons (mvar 4) (mcons (mvar 5) (mcons (mbin (gIx G) (mvar 6) (mret (.int 1))) mnil)))))) (sseq (sif (mtb (mbin gEq (mbin (gIx G) (mvar 6) (mret (.int 0))) (mret (.str "way")))) (sseq (sif (tor (mtb (mbin gNe (mvw 7) (mlst (mcons (mret (.bl true)) (mcons (mret (.bl false)) mnil))))) (tnot (mtb (mcall 3 F__law_way_right (mcons (mvar 0) (mcons (mvar 1) (mcons (mbin (gIx G) (mvar 6) (mret (.int 1))) mnil))))))) (sret (mret (.bl false))) snext) (sseq (sset 8 (mlc (irange1 (m1 gLen (mvar 0))) (gset 9) (mtb (mcall 4 F_is_bar (mcons (mvar 3) (mcons (mvar 4) (mcons (mvar 5) (mcons (mtup (mcons (mvar 9) mnil)) mnil)))))) (mvar 9) [9])) (sret (vand (mbin gEq (mvar 8) (mlst mnil)) (mbin (gIn G) (mvar 1) (mvar 2)))))) snext) (sseq (sif (tor (mtb (mbin gNe (mvw 7) (mlst (mcons (mret (.bl false)) (mcons (mret (.bl true)) mnil))))) (tnot (mtb (mcall 3 F__law_bar_right (mcons (mvar 0) (mcons (mvar 1) (mcons (mbin (gIx G) (mvar 6) (mret (.int 1))) mnil))))))) (sret (mret (.bl false))) snext) (sseq (sset 8 (mlc (isrc (mvar 5)) (gset 10) (mtb (mcall 4 F_is_way (mcons (mvar 3) (mcons (mvar 4) (mcons (mvar 5) (mcons (mtup (mcons (mvar 10) mnil)) mnil)))))) (mvar 10) [10])) (sret (vand (mbin gEq (mvar 8) (mlst mnil)) (mbin (gNotIn G) (mvar 1) (mvar 2))))))))))))
noncomputable def F__law_row_right : FF := runF 11 m__law_row_right
theorem sc__law_row_right : FnScope ["_law_rows_here", "_law_at", "_law_copies", "_law_chart", "_law_starts", "_law_goals", "_law_told", "_law_looks", "_law_some", "_law_one", "_law_goal"] ["_law_rows_here", "_law_at", "_law_copies"] (defScope (topS 83)) := ⟨rfl, rfl, rfl, by decide +kernel, rfl, by decide +kernel, by decide +kernel⟩
theorem ok__law_row_right (fx : Fx w K mg) : Fd P w K mg base 11 "_law_row_right" 3 F__law_row_right :=
  fd_of (k := 10) fx.f__law_row_right sc__law_row_right rfl (fun _ _ _ _ _ _ us hl => match us, hl with | [_, _, _], _ => rfl) fun f cdv A outer s H E hr =>
  (sx_cons (sx_asg (px_call ((ok_case_of fx).mono (by decide)) hr (takes_of rfl rfl rfl rfl) (xa_cons (px_var 0) (xa_cons (px_var 1) xa_nil))) (pgx_tup rfl (pgx_cons (pgx_name 3 sc__law_row_right.nd) (pgx_cons (pgx_name 4 sc__law_row_right.nd) (pgx_cons (pgx_name 5 sc__law_row_right.nd) pgx_nil))))) (sx_cons (sx_set sc__law_row_right.nd (px_call ((ok_paper_of fx).mono (by decide)) hr (takes_of rfl rfl rfl rfl) (xa_cons (px_var 0) (xa_cons (px_var 1) xa_nil)))) (sx_cons (sx_if (xt_w (xw_or (pt_ne8 (room_u hr) (px_var 6) (px_call ((ok_paper fx).mono (by decide)) hr (takes_of rfl rfl rfl rfl) (xa_cons (px_var 3) (xa_cons (px_var 4) (xa_cons (px_var 5) xa_nil))))) (xw_or1 (pt_ne8 (room_u hr) (px_len fx.b_len (px_var 6)) px_int)))) (sx_one (sx_ret px_bl)) sx_nil) (sx_cons (sx_setT sc__law_row_right.nd (pxt_lst (xa_cons (px_call ((ok_is_way fx).mono (by decide)) hr (takes_of rfl rfl rfl rfl) (xa_cons (px_var 3) (xa_cons (px_var 4) (xa_cons (px_var 5) (xa_cons (px_ix fx.hG (room_u hr) (px_var 6) px_int) xa_nil))))) xa_nil))) (sx_cons (sx_app (px_call ((ok_is_bar fx).mono (by decide)) hr (takes_of rfl rfl rfl rfl) (xa_cons (px_var 3) (xa_cons (px_var 4) (xa_cons (px_var 5) (xa_cons (px_ix fx.hG (room_u hr) (px_var 6) px_int) xa_nil)))))) (sx_cons (sx_if (pt_eq8 (room_u hr) (px_ix fx.hG (room_u hr) (px_var 6) px_int) px_str) (sx_cons (sx_if (xt_w (xw_or (pt_ne8 (room_u hr) (px_vw 7) (px_lst (xa_cons px_bl (xa_cons px_bl xa_nil)))) (xw_or1 (xt_not (pt_val8 (px_call ((ok__law_way_right fx).mono (by decide)) hr (takes_of rfl rfl rfl rfl) (xa_cons (px_var 0) (xa_cons (px_var 1) (xa_cons (px_ix fx.hG (room_u hr) (px_var 6) px_int) xa_nil))))))))) (sx_one (sx_ret px_bl)) sx_nil) (sx_cons (sx_setLc rfl sc__law_row_right.nd (pix_range1 fx.b_range (px_len fx.b_len (px_var 0))) (blkOk_by (own := [("_law_one", 9)]) (by rfl)) (fun _ _ _ _ _ => (pgx_name 9 sc__law_row_right.nd)) (fun _ _ _ _ _ => (ptx_one (pt_val8 (px_call ((ok_is_bar fx).mono (by decide)) hr takes0 (xa_cons (px_var 3) (xa_cons (px_var 4) (xa_cons (px_var 5) (xa_cons (px_tup (xa_cons (px_var 9) xa_nil)) xa_nil)))))))) (fun _ _ _ _ _ => (px_var 9))) (sx_one (sx_ret (px_and (px_eq (room_u hr) (px_var 8) (px_lst xa_nil)) (px_one (px_in fx.hG (room_u hr) (px_var 1) (px_var 2)))))))) sx_nil) (sx_cons (sx_if (xt_w (xw_or (pt_ne8 (room_u hr) (px_vw 7) (px_lst (xa_cons px_bl (xa_cons px_bl xa_nil)))) (xw_or1 (xt_not (pt_val8 (px_call ((ok__law_bar_right fx).mono (by decide)) hr (takes_of rfl rfl rfl rfl) (xa_cons (px_var 0) (xa_cons (px_var 1) (xa_cons (px_ix fx.hG (room_u hr) (px_var 6) px_int) xa_nil))))))))) (sx_one (sx_ret px_bl)) sx_nil) (sx_cons (sx_setLc rfl sc__law_row_right.nd (pix_seq (px_var 5)) (blkOk_by (own := [("_law_goal", 10)]) (by rfl)) (fun _ _ _ _ _ => (pgx_name 10 sc__law_row_right.nd)) (fun _ _ _ _ _ => (ptx_one (pt_val8 (px_call ((ok_is_way fx).mono (by decide)) hr takes0 (xa_cons (px_var 3) (xa_cons (px_var 4) (xa_cons (px_var 5) (xa_cons (px_tup (xa_cons (px_var 10) xa_nil)) xa_nil)))))))) (fun _ _ _ _ _ => (px_var 10))) (sx_one (sx_ret (px_and (px_eq (room_u hr) (px_var 8) (px_lst xa_nil)) (px_one (px_notin fx.hG (room_u hr) (px_var 1) (px_var 2))))))))))))))
noncomputable def m__law_alone_right : S8 := (sseq (spar 2 3 (mcons (mcall 2 F_paper_of (mcons (mvar 0) (mcons (mvar 1) mnil))) (mcons (mcall 1 F_unsafe (mcons (mcall 2 F__law_with_marks (mcons (mvar 0) (mcons (mlst (mcons (mvar 1) mnil)) mnil))) mnil)) mnil))) (sret (vif (mtb (mbin gEq (mbin (gIx G) (mvar 2) (mret (.int 0))) (mret (.str "way")))) (mbin gEq (mvar 3) (mtup (mcons (mvar 1) (mcons (mbin (gIx G) (mvar 2) (mret (.int 1))) mnil)))) (mbin gIs (mvar 3) (mret .non)))))
noncomputable def F__law_alone_right : FF := runF 4 m__law_alone_right
theorem sc__law_alone_right : FnScope ["_law_rows_here", "_law_at", "_law_told", "_law_found"] ["_law_rows_here", "_law_at"] (defScope (topS 84)) := ⟨rfl, rfl, rfl, by decide +kernel, rfl, by decide +kernel, by decide +kernel⟩
theorem ok__law_alone_right (fx : Fx w K mg) : Fd P w K mg base 11 "_law_alone_right" 2 F__law_alone_right :=
  fd_of (k := 10) fx.f__law_alone_right sc__law_alone_right rfl (fun _ _ _ _ _ _ us hl => match us, hl with | [_, _], _ => rfl) fun f cdv A outer s H E hr =>
  (sx_cons (sx_par rfl sc__law_alone_right.nd (xa_cons (px_call ((ok_paper_of fx).mono (by decide)) hr (takes_of rfl rfl rfl rfl) (xa_cons (px_var 0) (xa_cons (px_var 1) xa_nil))) (xa_cons (px_call ((ok_unsafe fx).mono (by decide)) hr (takes_of rfl rfl rfl rfl) (xa_cons (px_call ((ok__law_with_marks fx).mono (by decide)) hr (takes_of rfl rfl rfl rfl) (xa_cons (px_var 0) (xa_cons (px_lst (xa_cons (px_var 1) xa_nil)) xa_nil))) xa_nil)) xa_nil))) (sx_one (sx_ret (px_if (pt_eq8 (room_u hr) (px_ix fx.hG (room_u hr) (px_var 2) px_int) px_str) (px_eq (room_u hr) (px_var 3) (px_tup (xa_cons (px_var 1) (xa_cons (px_ix fx.hG (room_u hr) (px_var 2) px_int) xa_nil)))) (px_is (px_var 3) px_non)))))
noncomputable def f1_law : S8 := (sif (mtb (mcall 1 F__law_marked (mcons (mvar 7) mnil))) (sseq (sif (tnot (mtb (mcall 3 F__law_row_right (mcons (mvar 4) (mcons (mvar 6) (mcons (mvar 5) mnil)))))) (sret (mret (.bl false))) snext) (sif (tand (mtb (mbin gEq (fz (tcall 2 F__law_choice (mcons (mvar 2) (mcons (mret (.int 4)) mnil)))) (mret (.int 0)))) (tnot (mtb (mcall 2 F__law_alone_right (mcons (mvar 4) (mcons (mvar 6) mnil)))))) (sret (mret (.bl false))) snext)) snext)
noncomputable def f2_law : S8 := (sseq (sset 4 (fz (tcall 1 F__law_rows (mcons (mvar 2) mnil)))) (sseq (sset 5 (mcall 1 F_must_copy (mcons (mvar 4) mnil))) (sfor (ienum (mvar 4)) (gtup 2 (gcons (gset 6) (gcons (gtup 2 (gcons (gset 7) (gcons (gset 8) gnil))) gnil))) f1_law)))
noncomputable def f3_law : S8 := (sseq (sbox 2 (tcall 2 F__law_state (mcons (mvar 0) (mcons (mvar 1) mnil)))) (sfor (irange1 (mret (.int 2))) (gset 3) f2_law))
noncomputable def m_law : S8 := (sseq (sfor (irange1 (mN gMax2 (mcons (mret (.int 1)) (mcons (mN gMin2 (mcons (m1 gLen (mvar 0)) (mcons (mret (.int 2)) mnil))) mnil)))) (gset 1) f3_law) (sret (mret (.bl true))))
noncomputable def F_law : FF := runF 9 m_law
theorem sc_law : FnScope ["_law_script", "_law_nth", "_law_state_here", "_law_lap", "_law_rows_here", "_law_copies", "_law_at", "_law_deed", "_law_nexts"] ["_law_script"] (defScope (topS 85)) := ⟨rfl, rfl, rfl, by decide +kernel, rfl, by decide +kernel, by decide +kernel⟩
theorem raw_law (fx : Fx w K mg) {f : Addr} {fd : FuncData} (Fn : L2.Fun K "law" "law" (topS 85) f fd) : FnOk P w K mg base (L2.CX P w) 12 f fd ["_law_script"] (SpF K mg 1 F_law) :=
  fn_F (k := 11) Fn sc_law rfl fun cdv A outer s H E hr =>
  (sx_cons (sx_for (passes_of rfl) rfl (pix_range1 fx.b_range (px_max2 rfl fx.b_max (xa_cons px_int (xa_cons (px_min2 rfl fx.b_min (xa_cons (px_len fx.b_len (px_var 0)) (xa_cons px_int xa_nil))) xa_nil)))) (pgx_name 1 sc_law.nd) (sx_cons (sx_box sc_law.nd (pxt_call ((ok__law_state fx).mono (by decide)) hr (takes_of rfl rfl rfl rfl) (xa_cons (px_var 0) (xa_cons (px_var 1) xa_nil)))) (sx_one (sx_for (passes_of rfl) rfl (pix_range1 fx.b_range px_int) (pgx_name 3 sc_law.nd) (sx_cons (sx_set sc_law.nd (px_fz (pxt_call ((ok__law_rows fx).mono (by decide)) hr (takes_of rfl rfl rfl rfl) (xa_cons (px_var 2) xa_nil)))) (sx_cons (sx_set sc_law.nd (px_call ((ok_must_copy fx).mono (by decide)) hr (takes_of rfl rfl rfl rfl) (xa_cons (px_var 4) xa_nil))) (sx_one (sx_for (passes_of rfl) rfl (pix_enum fx.b_enumerate (px_var 4)) (pgx_tup rfl (pgx_cons (pgx_name 6 sc_law.nd) (pgx_cons (pgx_tup rfl (pgx_cons (pgx_name 7 sc_law.nd) (pgx_cons (pgx_name 8 sc_law.nd) pgx_nil))) pgx_nil))) (sx_one (sx_if (pt_val8 (px_call ((ok__law_marked fx).mono (by decide)) hr (takes_of rfl rfl rfl rfl) (xa_cons (px_var 7) xa_nil))) (sx_cons (sx_if (xt_not (pt_val8 (px_call ((ok__law_row_right fx).mono (by decide)) hr (takes_of rfl rfl rfl rfl) (xa_cons (px_var 4) (xa_cons (px_var 6) (xa_cons (px_var 5) xa_nil)))))) (sx_one (sx_ret px_bl)) sx_nil) (sx_one (sx_if (xt_w (xw_and (pt_eq8 (room_u hr) (px_fz (pxt_call ((ok__law_choice fx).mono (by decide)) hr (takes_of rfl rfl rfl rfl) (xa_cons (px_var 2) (xa_cons px_int xa_nil)))) px_int) (xw_and1 (xt_not (pt_val8 (px_call ((ok__law_alone_right fx).mono (by decide)) hr (takes_of rfl rfl rfl rfl) (xa_cons (px_var 4) (xa_cons (px_var 6) xa_nil)))))))) (sx_one (sx_ret px_bl)) sx_nil))) sx_nil)))))))))) (sx_one (sx_ret px_bl)))
end K90

set_option maxHeartbeats 1000000
namespace K90
open PySem PySem.Spec Fy

theorem szn {n : Nat} (h : n ≤ 1000) : n ≤ sizeLine := by rw [sizeLine_eq]; omega
theorem x_tyes {q : Q8} : tyes q = .ok true q := rfl
theorem bls_map {ι : Type} (f : ι → Bool) : ∀ xs : List ι, bls (xs.map fun x => .bl (f x)) = some (xs.map f)
  | [] => rfl
  | x :: xs => by simp [bls, bls_map f xs]
/-! ### the small defs -/
theorem e_is_whole_int {i : Int} {S : List I8} {b : Bool} : F_is_whole [.int i] S b = .ok (.d (.bl true)) S := by
  simp [F_is_whole, m_is_whole, x_bnd, x_mret, x_some, x_none, x_mvar, x_mvw, x_mbin, x_mtb, x_tand, x_tor, x_tnot, x_vand, x_vor, x_vnot, x_vif, x_chain, x_m1, x_mN, x_mnil, x_mcons, x_mtup, x_mlst, x_tmlst, x_mcall, x_tcall, x_fz, x_mD, x_get2, x_msl1, x_msl2, x_sseq, x_snext, x_sdrop, x_sset, x_sret, x_sretN, x_sretT, x_sretO, x_sif, x_sraise, x_sasg, x_spar, x_ssetT, x_saug, x_gset, x_gnil, x_gcons, x_gtup, x_gtupL, x_gstar, x_isrc, x_ienum, x_izip, x_irange1, x_run, x_mcomp, x_mlc2, x_mlc, x_sfor, slots0, gIsI, isD, tyD, subTy]
def inn (i a c : Int) : Bool := decide (a ≤ i) && decide (i ≤ c)
theorem e_is_within {i a c : Int} {S : List I8} {b : Bool} : F_is_within [.int i, .int a, .int c] S b = .ok (.d (.bl (inn i a c))) S := by
  unfold inn
  by_cases h1 : a ≤ i <;> by_cases h2 : i ≤ c <;> simp [F_is_within, m_is_within, x_bnd, x_mret, x_some, x_none, x_mvar, x_mvw, x_mbin, x_mtb, x_tand, x_tor, x_tnot, x_vand, x_vor, x_vnot, x_vif, x_chain, x_m1, x_mN, x_mnil, x_mcons, x_mtup, x_mlst, x_tmlst, x_mcall, x_tcall, x_fz, x_mD, x_get2, x_msl1, x_msl2, x_sseq, x_snext, x_sdrop, x_sset, x_sret, x_sretN, x_sretT, x_sretO, x_sif, x_sraise, x_sasg, x_spar, x_ssetT, x_saug, x_gset, x_gnil, x_gcons, x_gtup, x_gtupL, x_gstar, x_isrc, x_ienum, x_izip, x_irange1, x_run, x_mcomp, x_mlc2, x_mlc, x_sfor, slots0, e_is_whole_int, freeze, gLe, h1, h2]
/-- rows of points -/
def dI (ns : List Int) : Fy.D := .tup (ns.map .int)
def dC (c : List (List Int)) : Fy.D := .tup (c.map dI)
def rising (ns : List Int) : Bool := (ns.zip ns.tail).all fun p => decide (p.1 < p.2)
def points (many : Int) (ns : List Int) : Bool := (ns.all fun i => inn i 0 (many - 1)) && rising ns
theorem cut1 {α : Type} (xs : List α) : cutD xs (some 1) none = xs.tail := by
  rw [← List.drop_one]
  unfold cutD
  rw [show HT.sIx xs.length 0 (some 1) = min 1 xs.length from HT.sIx_nat xs.length 0 1, HT.sIx_none]
  cases xs with
  | nil => rfl
  | cons x r =>
    rw [show min 1 (x :: r).length = 1 by rw [List.length_cons]; omega]
    show (List.take ((x :: r).length - 1) r) = r
    rw [List.length_cons, Nat.add_sub_cancel]
    exact List.take_length
theorem e_are_points {many : Int} {ns : List Int} {S : List I8} {b : Bool} (hl : ns.length ≤ 100) : F_are_points [.int many, dI ns] S b = .ok (.d (.bl (points many ns))) S := by
  have h1 := tn_map (g := gset 2) (t := tyes) (e := mcall 3 F_is_within (mcons (mvar 2) (mcons (mret (.int 0)) (mcons (mbin gSub (mvar 0) (mret (.int 1))) mnil)))) (vs := [2]) (q0 := ⟨[some (.d (.int many)), some (.d (dI ns)), none, none], S, b⟩) .int (fun _ => true) (fun i => .bl (inn i 0 (many - 1))) ns [] (fun i _ => by
      refine ⟨_, rfl, rfl, fun _ => ?_, rfl, rfl, rfl, rfl⟩
      simp [x_bnd, x_mret, x_some, x_none, x_mvar, x_mvw, x_mbin, x_mtb, x_tand, x_tor, x_tnot, x_vand, x_vor, x_vnot, x_vif, x_chain, x_m1, x_mN, x_mnil, x_mcons, x_mtup, x_mlst, x_tmlst, x_mcall, x_tcall, x_fz, x_mD, x_get2, x_msl1, x_msl2, x_sseq, x_snext, x_sdrop, x_sset, x_sret, x_sretN, x_sretT, x_sretO, x_sif, x_sraise, x_sasg, x_spar, x_ssetT, x_saug, x_gset, x_gnil, x_gcons, x_gtup, x_gtupL, x_gstar, x_isrc, x_ienum, x_izip, x_irange1, x_run, x_mcomp, x_mlc2, x_mlc, x_sfor, e_is_within, freeze, gSub]) (szn (by simp; omega))
  have h2 := tn_map (g := gtup 2 (gcons (gset 2) (gcons (gset 3) gnil))) (t := tyes) (e := mbin gLt (mvar 2) (mvar 3)) (vs := [2, 3]) (q0 := ⟨[some (.d (.int many)), some (.d (dI ns)), none, none], S, b⟩) (fun p : Int × Int => .tup [.int p.1, .int p.2]) (fun _ => true) (fun p => .bl (decide (p.1 < p.2))) (ns.zip ns.tail) [] (fun i _ => by
      refine ⟨_, rfl, rfl, fun _ => ?_, rfl, rfl, rfl, rfl⟩
      simp [x_bnd, x_mret, x_some, x_none, x_mvar, x_mvw, x_mbin, x_mtb, x_tand, x_tor, x_tnot, x_vand, x_vor, x_vnot, x_vif, x_chain, x_m1, x_mN, x_mnil, x_mcons, x_mtup, x_mlst, x_tmlst, x_mcall, x_tcall, x_fz, x_mD, x_get2, x_msl1, x_msl2, x_sseq, x_snext, x_sdrop, x_sset, x_sret, x_sretN, x_sretT, x_sretO, x_sif, x_sraise, x_sasg, x_spar, x_ssetT, x_saug, x_gset, x_gnil, x_gcons, x_gtup, x_gtupL, x_gstar, x_isrc, x_ienum, x_izip, x_irange1, x_run, x_mcomp, x_mlc2, x_mlc, x_sfor, gLt]) (szn (by simp; omega))
  have hz : ((ns.map Fy.D.int).zip (ns.map Fy.D.int).tail).map (fun p => Fy.D.tup [p.1, p.2]) = (ns.zip ns.tail).map (fun p : Int × Int => Fy.D.tup [.int p.1, .int p.2]) := by
    rw [← List.map_tail, List.zip_map, List.map_map]
    rfl
  have f1 : List.filter (fun _ => true) ns = ns := List.filter_eq_self.mpr fun _ _ => rfl
  have f2 : List.filter (fun _ => true) (ns.zip ns.tail) = ns.zip ns.tail := List.filter_eq_self.mpr fun _ _ => rfl
  rw [f1] at h1
  rw [f2] at h2
  simp only [List.nil_append] at h1 h2
  unfold dI at h1 h2 ⊢
  unfold F_are_points m_are_points points rising
  cases hp : (ns.all fun i => inn i 0 (many - 1)) with
  | false => simp [x_bnd, x_mret, x_some, x_none, x_mvar, x_mvw, x_mbin, x_mtb, x_tand, x_tor, x_tnot, x_vand, x_vor, x_vnot, x_vif, x_chain, x_m1, x_mN, x_mnil, x_mcons, x_mtup, x_mlst, x_tmlst, x_mcall, x_tcall, x_fz, x_mD, x_get2, x_msl1, x_msl2, x_sseq, x_snext, x_sdrop, x_sset, x_sret, x_sretN, x_sretT, x_sretO, x_sif, x_sraise, x_sasg, x_spar, x_ssetT, x_saug, x_gset, x_gnil, x_gcons, x_gtup, x_gtupL, x_gstar, x_isrc, x_ienum, x_izip, x_irange1, x_run, x_mcomp, x_mlc2, x_mlc, x_sfor, slots0, gIsI, isD, tyD, subTy, itemsD, okW, datS, wipeR, h1, bls_map, gAll, hp, List.all_map, Function.comp_def]
  | true => 
    simp [x_bnd, x_mret, x_some, x_none, x_mvar, x_mvw, x_mbin, x_mtb, x_tand, x_tor, x_tnot, x_vand, x_vor, x_vnot, x_vif, x_chain, x_m1, x_mN, x_mnil, x_mcons, x_mtup, x_mlst, x_tmlst, x_mcall, x_tcall, x_fz, x_mD, x_get2, x_msl1, x_msl2, x_sseq, x_snext, x_sdrop, x_sset, x_sret, x_sretN, x_sretT, x_sretO, x_sif, x_sraise, x_sasg, x_spar, x_ssetT, x_saug, x_gset, x_gnil, x_gcons, x_gtup, x_gtupL, x_gstar, x_isrc, x_ienum, x_izip, x_irange1, x_run, x_mcomp, x_mlc2, x_mlc, x_sfor, slots0, gIsI, isD, tyD, subTy, itemsD, okW, datS, wipeR, h1, bls_map, gAll, hp, List.all_map, Function.comp_def, zip8, gSl, cut1, hz, h2]

/-- a chart -/
def chartOk (c : List (List Int)) : Bool := c.all fun ns => points c.length ns
structure Sm (c : List (List Int)) : Prop where
  l : c.length ≤ 60
  a : ∀ ns ∈ c, ns.length ≤ 100
theorem e_is_chart {c : List (List Int)} {S : List I8} {b : Bool} (h : Sm c) : F_is_chart [dC c] S b = .ok (.d (.bl (chartOk c))) S := by
  have h1 := tn_map (g := gset 1) (t := tyes) (e := mcall 2 F_are_points (mcons (m1 gLen (mvar 0)) (mcons (mvar 1) mnil))) (vs := [1]) (q0 := ⟨[some (.d (dC c)), none], S, b⟩) dI (fun _ => true) (fun ns => .bl (points c.length ns)) c [] (fun ns hn => by
      refine ⟨_, rfl, rfl, fun _ => ?_, rfl, rfl, rfl, rfl⟩
      simp [x_bnd, x_mret, x_some, x_none, x_mvar, x_mvw, x_mbin, x_mtb, x_tand, x_tor, x_tnot, x_vand, x_vor, x_vnot, x_vif, x_chain, x_m1, x_mN, x_mnil, x_mcons, x_mtup, x_mlst, x_tmlst, x_mcall, x_tcall, x_fz, x_mD, x_get2, x_msl1, x_msl2, x_sseq, x_snext, x_sdrop, x_sset, x_sret, x_sretN, x_sretT, x_sretO, x_sif, x_sraise, x_sasg, x_spar, x_ssetT, x_saug, x_gset, x_gnil, x_gcons, x_gtup, x_gtupL, x_gstar, x_isrc, x_ienum, x_izip, x_irange1, x_run, x_mcomp, x_mlc2, x_mlc, x_sfor, e_are_points (h.a ns hn), freeze, gLen, dC]) (szn (by have := h.l; simp; omega))
  have f1 : List.filter (fun _ => true) c = c := List.filter_eq_self.mpr fun _ _ => rfl
  rw [f1] at h1
  simp only [List.nil_append] at h1
  unfold dC at h1 ⊢
  unfold F_is_chart m_is_chart chartOk
  simp [x_bnd, x_mret, x_some, x_none, x_mvar, x_mvw, x_mbin, x_mtb, x_tand, x_tor, x_tnot, x_vand, x_vor, x_vnot, x_vif, x_chain, x_m1, x_mN, x_mnil, x_mcons, x_mtup, x_mlst, x_tmlst, x_mcall, x_tcall, x_fz, x_mD, x_get2, x_msl1, x_msl2, x_sseq, x_snext, x_sdrop, x_sset, x_sret, x_sretN, x_sretT, x_sretO, x_sif, x_sraise, x_sasg, x_spar, x_ssetT, x_saug, x_gset, x_gnil, x_gcons, x_gtup, x_gtupL, x_gstar, x_isrc, x_ienum, x_izip, x_irange1, x_run, x_mcomp, x_mlc2, x_mlc, x_sfor, slots0, gIsI, isD, tyD, subTy, itemsD, okW, datS, wipeR, h1, bls_map, gAll, List.all_map, Function.comp_def]
theorem e_need_chart {c : List (List Int)} {S : List I8} {b : Bool} (h : Sm c) (hc : chartOk c = true) : F_need_chart [dC c] S b = .ok (.d .non) S := by
  unfold F_need_chart m_need_chart
  simp [x_bnd, x_mret, x_some, x_none, x_mvar, x_mvw, x_mbin, x_mtb, x_tand, x_tor, x_tnot, x_vand, x_vor, x_vnot, x_vif, x_chain, x_m1, x_mN, x_mnil, x_mcons, x_mtup, x_mlst, x_tmlst, x_mcall, x_tcall, x_fz, x_mD, x_get2, x_msl1, x_msl2, x_sseq, x_snext, x_sdrop, x_sset, x_sret, x_sretN, x_sretT, x_sretO, x_sif, x_sraise, x_sasg, x_spar, x_ssetT, x_saug, x_gset, x_gnil, x_gcons, x_gtup, x_gtupL, x_gstar, x_isrc, x_ienum, x_izip, x_irange1, x_run, x_mcomp, x_mlc2, x_mlc, x_sfor, slots0, e_is_chart h, hc, freeze]
theorem e_need_all {c : List (List Int)} {st gl : List Int} {S : List I8} {b : Bool} (h : Sm c) (hc : chartOk c = true) (h1 : st.length ≤ 100) (h2 : gl.length ≤ 100) (p1 : points c.length st = true) (p2 : points c.length gl = true) :
    F_need_all [dC c, dI st, dI gl] S b = .ok (.d .non) S := by
  have hl : gLen S (dC c) = some (.int c.length) := by simp [gLen, dC]
  unfold F_need_all m_need_all
  simp [x_bnd, x_mret, x_some, x_none, x_mvar, x_mvw, x_mbin, x_mtb, x_tand, x_tor, x_tnot, x_vand, x_vor, x_vnot, x_vif, x_chain, x_m1, x_mN, x_mnil, x_mcons, x_mtup, x_mlst, x_tmlst, x_mcall, x_tcall, x_fz, x_mD, x_get2, x_msl1, x_msl2, x_sseq, x_snext, x_sdrop, x_sset, x_sret, x_sretN, x_sretT, x_sretO, x_sif, x_sraise, x_sasg, x_spar, x_ssetT, x_saug, x_gset, x_gnil, x_gcons, x_gtup, x_gtupL, x_gstar, x_isrc, x_ienum, x_izip, x_irange1, x_run, x_mcomp, x_mlc2, x_mlc, x_sfor, slots0, e_need_chart h hc, freeze, hl, e_are_points h1, e_are_points h2, p1, p2]

/-! ### rows of points, ways -/
theorem flat_ints : ∀ ns : List Int, (ns.map Fy.D.int).all flatD = true
  | [] => rfl
  | n :: ns => by rw [List.map_cons, List.all_cons, flat_ints ns]; rfl
theorem inF_ints (y : Int) : ∀ ns : List Int, inF (.int y) (ns.map Fy.D.int) = decide (y ∈ ns)
  | [] => rfl
  | n :: ns => by
    have ih := inF_ints y ns
    unfold inF at ih ⊢
    rw [List.map_cons, List.any_cons, ih]
    show ((n == y) || _) = _
    by_cases h : n = y
    · subst h; simp
    · simp [h, Ne.symm h]
theorem in_ints {G : Tb} (y : Int) (ns : List Int) : dIn G (.int y) (dI ns) = some (decide (y ∈ ns)) := by
  unfold dI
  simp only [dIn, flat_ints, inF_ints]
  rfl
/-- the points behind a point -/
def nx (c : List (List Int)) (k : Int) : List Int := c.getD k.toNat []
theorem atI_nat {α : Type} {xs : List α} {k : Int} {x : α} (h0 : 0 ≤ k) (e : xs[k.toNat]? = some x) : L2.atI xs k = some x := by
  have hl := (List.getElem?_eq_some_iff.mp e).1
  unfold L2.atI L2.ixN
  rw [if_pos h0, if_pos (by omega)]
  exact e
theorem at_chart {c : List (List Int)} {k : Int} (h0 : 0 ≤ k) (h1 : k < c.length) : L2.atI (c.map dI) k = some (dI (nx c k)) := by
  refine atI_nat h0 ?_
  have hk : k.toNat < c.length := by omega
  rw [List.getElem?_map, List.getElem?_eq_getElem hk]
  unfold nx
  rw [List.getD_eq_getElem?_getD, List.getElem?_eq_getElem hk]
  rfl
theorem canLay_ints : ∀ ns : List Int, PyData.canLayAll0 (pys (ns.map .int)) = true
  | [] => rfl
  | n :: ns => by simp only [List.map_cons, pys, PyData.canLayAll0, py, PyData.canLay0, canLay_ints ns]; rfl
theorem depth_ints : ∀ ns : List Int, PyData.depthAll (pys (ns.map .int)) = 0
  | [] => rfl
  | n :: ns => by simp only [List.map_cons, pys, PyData.depthAll, py, PyData.depth, depth_ints ns]; rfl
theorem shaped_ints (ns : List Int) : SeqAt.shaped (py (dI ns)) = true := by
  unfold SeqAt.shaped dI
  simp only [py, PyData.canLay0, PyData.depth, canLay_ints, depth_ints]
  rfl
theorem eq_nil (ns : List Int) : dEq (dI ns) (.tup []) = some ns.isEmpty := by
  have h1 := shaped_ints ns
  have h2 := shaped_ints []
  unfold dI at h1 h2 ⊢
  simp only [List.map_nil] at h2
  show (if SeqAt.shaped (py (.tup (ns.map .int))) && SeqAt.shaped (py (.tup [])) then some (PyData.eqv (py (.tup (ns.map .int))) (py (.tup []))) else none) = _
  rw [h1, h2]
  cases ns with
  | nil => rfl
  | cons n ns => rfl
def steps (c : List (List Int)) (w : List Int) : Bool := (w.zip w.tail).all fun p => decide (p.2 ∈ nx c p.1)
def rowOf (c : List (List Int)) (w : List Int) : Bool := (!w.isEmpty) && ((w.all fun i => inn i 0 (c.length - 1)) && steps c w)
theorem isT_dI {S : List I8} {w : List Int} : gIsI "tuple" S (dI w) = some (.bl true) := rfl
theorem it_dI {w : List Int} : itemsD (dI w) = some (w.map .int) := rfl
theorem it_dC {c : List (List Int)} : itemsD (dC c) = some (c.map dI) := rfl
theorem sl_dI {S : List I8} {w : List Int} : gSl (some 1) none S (dI w) = some (dI w.tail) := by
  unfold dI
  simp only [gSl, cut1, List.map_tail]
theorem zip_dI {v w : List Int} : zip8 (dI v) (dI w) = some ((v.zip w).map fun p : Int × Int => .tup [.int p.1, .int p.2]) := by
  unfold zip8
  rw [it_dI, it_dI]
  simp only
  rw [List.zip_map, List.map_map]
  rfl
theorem ix_dC {S : List I8} {c : List (List Int)} {k : Int} (h : inn k 0 (c.length - 1) = true) : gIx G S (dC c) (.int k) = some (dI (nx c k)) := by
  unfold inn at h
  simp only [Bool.and_eq_true, decide_eq_true_eq] at h
  exact at_chart h.1 (by omega)
theorem gIn_dI {S : List I8} {y : Int} {ns : List Int} : gIn G S (.int y) (dI ns) = some (.bl (decide (y ∈ ns))) := by
  unfold gIn
  rw [in_ints]
  rfl
theorem gAll_bls {ι : Type} {S : List I8} (f : ι → Bool) (xs : List ι) : gAll S (.lst (xs.map fun x => .bl (f x))) = some (.bl (xs.all f)) := by
  simp [gAll, bls_map, List.all_map, Function.comp_def]
theorem gAny_bls {ι : Type} {S : List I8} (f : ι → Bool) (xs : List ι) : gAny S (.lst (xs.map fun x => .bl (f x))) = some (.bl (xs.any f)) := by
  simp [gAny, bls_map, List.any_map, Function.comp_def]
theorem eqE_dI {S : List I8} {w : List Int} : gEq S (dI w) (.tup []) = some (.bl w.isEmpty) := by unfold gEq; rw [eq_nil]; rfl
theorem neE_dI {S : List I8} {w : List Int} : gNe S (dI w) (.tup []) = some (.bl (!w.isEmpty)) := by unfold gNe; rw [eq_nil]; rfl
theorem len_dC {S : List I8} {c : List (List Int)} : gLen S (dC c) = some (.int c.length) := by simp [gLen, dC]
theorem len_dI {S : List I8} {c : List Int} : gLen S (dI c) = some (.int c.length) := by simp [gLen, dI]
theorem all_true {ι : Type} (xs : List ι) : xs.filter (fun _ => true) = xs := List.filter_eq_self.mpr fun _ _ => rfl
theorem e_is_row_of_points {c : List (List Int)} {w : List Int} {S : List I8} {b : Bool} (hl : w.length ≤ 100) : F_is_row_of_points [dC c, dI w] S b = .ok (.d (.bl (rowOf c w))) S := by
  have h1 := tn_map (g := gset 2) (t := tyes) (e := mcall 3 F_is_within (mcons (mvar 2) (mcons (mret (.int 0)) (mcons (mbin gSub (m1 gLen (mvar 0)) (mret (.int 1))) mnil)))) (vs := [2]) (q0 := ⟨[some (.d (dC c)), some (.d (dI w)), none, none], S, b⟩) .int (fun _ => true) (fun i => .bl (inn i 0 (c.length - 1))) w [] (fun i _ => by
      refine ⟨_, rfl, rfl, fun _ => ?_, rfl, rfl, rfl, rfl⟩
      simp [x_bnd, x_mret, x_some, x_none, x_mvar, x_mvw, x_mbin, x_mtb, x_tand, x_tor, x_tnot, x_vand, x_vor, x_vnot, x_vif, x_chain, x_m1, x_mN, x_mnil, x_mcons, x_mtup, x_mlst, x_tmlst, x_mcall, x_tcall, x_fz, x_mD, x_get2, x_msl1, x_msl2, x_sseq, x_snext, x_sdrop, x_sset, x_sret, x_sretN, x_sretT, x_sretO, x_sif, x_sraise, x_sasg, x_spar, x_ssetT, x_saug, x_gset, x_gnil, x_gcons, x_gtup, x_gtupL, x_gstar, x_isrc, x_ienum, x_izip, x_irange1, x_run, x_mcomp, x_mlc2, x_mlc, x_sfor, e_is_within, freeze, gSub, len_dC]) (szn (by simp; omega))
  rw [all_true] at h1
  simp only [List.nil_append] at h1
  unfold F_is_row_of_points m_is_row_of_points rowOf
  cases he : w.isEmpty with
  | true => simp [x_bnd, x_mret, x_some, x_none, x_mvar, x_mvw, x_mbin, x_mtb, x_tand, x_tor, x_tnot, x_vand, x_vor, x_vnot, x_vif, x_chain, x_m1, x_mN, x_mnil, x_mcons, x_mtup, x_mlst, x_tmlst, x_mcall, x_tcall, x_fz, x_mD, x_get2, x_msl1, x_msl2, x_sseq, x_snext, x_sdrop, x_sset, x_sret, x_sretN, x_sretT, x_sretO, x_sif, x_sraise, x_sasg, x_spar, x_ssetT, x_saug, x_gset, x_gnil, x_gcons, x_gtup, x_gtupL, x_gstar, x_isrc, x_ienum, x_izip, x_irange1, x_run, x_mcomp, x_mlc2, x_mlc, x_sfor, slots0, szn, isT_dI, eqE_dI, he]
  | false =>
    cases hp : (w.all fun i => inn i 0 (c.length - 1)) with
    | false => simp [x_bnd, x_mret, x_some, x_none, x_mvar, x_mvw, x_mbin, x_mtb, x_tand, x_tor, x_tnot, x_vand, x_vor, x_vnot, x_vif, x_chain, x_m1, x_mN, x_mnil, x_mcons, x_mtup, x_mlst, x_tmlst, x_mcall, x_tcall, x_fz, x_mD, x_get2, x_msl1, x_msl2, x_sseq, x_snext, x_sdrop, x_sset, x_sret, x_sretN, x_sretT, x_sretO, x_sif, x_sraise, x_sasg, x_spar, x_ssetT, x_saug, x_gset, x_gnil, x_gcons, x_gtup, x_gtupL, x_gstar, x_isrc, x_ienum, x_izip, x_irange1, x_run, x_mcomp, x_mlc2, x_mlc, x_sfor, slots0, szn, isT_dI, eqE_dI, he, it_dI, okW, datS, wipeR, h1, gAll_bls, hp]
    | true =>
      have h2 := tn_map (g := gtup 2 (gcons (gset 2) (gcons (gset 3) gnil))) (t := tyes) (e := mbin (gIn G) (mvar 3) (mbin (gIx G) (mvar 0) (mvar 2))) (vs := [2, 3]) (q0 := ⟨[some (.d (dC c)), some (.d (dI w)), none, none], S, b⟩) (fun p : Int × Int => .tup [.int p.1, .int p.2]) (fun _ => true) (fun p => .bl (decide (p.2 ∈ nx c p.1))) (w.zip w.tail) [] (fun i hi => by
        refine ⟨_, rfl, rfl, fun _ => ?_, rfl, rfl, rfl, rfl⟩
        have hin : inn i.1 0 (c.length - 1) = true := List.all_eq_true.mp hp i.1 (List.of_mem_zip hi).1
        simp [x_bnd, x_mret, x_some, x_none, x_mvar, x_mvw, x_mbin, x_mtb, x_tand, x_tor, x_tnot, x_vand, x_vor, x_vnot, x_vif, x_chain, x_m1, x_mN, x_mnil, x_mcons, x_mtup, x_mlst, x_tmlst, x_mcall, x_tcall, x_fz, x_mD, x_get2, x_msl1, x_msl2, x_sseq, x_snext, x_sdrop, x_sset, x_sret, x_sretN, x_sretT, x_sretO, x_sif, x_sraise, x_sasg, x_spar, x_ssetT, x_saug, x_gset, x_gnil, x_gcons, x_gtup, x_gtupL, x_gstar, x_isrc, x_ienum, x_izip, x_irange1, x_run, x_mcomp, x_mlc2, x_mlc, x_sfor, ix_dC hin, gIn_dI]) (szn (by simp; omega))
      rw [all_true] at h2
      simp only [List.nil_append] at h2
      unfold steps
      simp [x_bnd, x_mret, x_some, x_none, x_mvar, x_mvw, x_mbin, x_mtb, x_tand, x_tor, x_tnot, x_vand, x_vor, x_vnot, x_vif, x_chain, x_m1, x_mN, x_mnil, x_mcons, x_mtup, x_mlst, x_tmlst, x_mcall, x_tcall, x_fz, x_mD, x_get2, x_msl1, x_msl2, x_sseq, x_snext, x_sdrop, x_sset, x_sret, x_sretN, x_sretT, x_sretO, x_sif, x_sraise, x_sasg, x_spar, x_ssetT, x_saug, x_gset, x_gnil, x_gcons, x_gtup, x_gtupL, x_gstar, x_isrc, x_ienum, x_izip, x_irange1, x_run, x_mcomp, x_mlc2, x_mlc, x_sfor, slots0, szn, isT_dI, eqE_dI, he, it_dI, okW, datS, wipeR, h1, gAll_bls, hp, sl_dI, zip_dI, h2]

/-- the graph of a case -/
structure Case (c : List (List Int)) (st gl : List Int) : Prop where
  sm : Sm c
  ok : chartOk c = true
  ls : st.length ≤ 100
  lg : gl.length ≤ 100
  ps : points c.length st = true
  pg : points c.length gl = true
def isWay (c : List (List Int)) (st gl w : List Int) : Bool := rowOf c w && (decide (w.headD 0 ∈ st) && decide (w.getLastD 0 ∈ gl))
theorem head_dI {S : List I8} {n : Int} {w : List Int} : gIx G S (dI (n :: w)) (.int 0) = some (.int n) := atI_nat (by omega) rfl
theorem last_dI {S : List I8} {n : Int} {w : List Int} : gIx G S (dI (n :: w)) (.int (-1)) = some (.int ((n :: w).getLastD 0)) := by
  show L2.atI ((n :: w).map Fy.D.int) (-1) = _
  have e : (n :: w).map Fy.D.int = ((n :: w).dropLast.map .int) ++ [.int ((n :: w).getLast (List.cons_ne_nil _ _))] := by
    rw [← List.map_singleton, ← List.map_append, List.dropLast_concat_getLast]
  have e2 : (n :: w).getLastD 0 = (n :: w).getLast (List.cons_ne_nil _ _) := by
    rw [List.getLastD_eq_getLast?, List.getLast?_eq_some_getLast (List.cons_ne_nil _ _)]; rfl
  rw [e, e2]
  unfold L2.atI L2.ixN
  rw [if_neg (by omega), if_pos (by simp only [List.length_append, List.length_singleton]; omega)]
  have hk : (-1 + (((((n :: w).dropLast.map Fy.D.int) ++ [Fy.D.int ((n :: w).getLast (List.cons_ne_nil _ _))]).length : Nat) : Int)).toNat = ((n :: w).dropLast.map Fy.D.int).length := by
    rw [List.length_append, List.length_singleton]; omega
  show (((n :: w).dropLast.map Fy.D.int) ++ [Fy.D.int ((n :: w).getLast (List.cons_ne_nil _ _))])[(-1 + (((((n :: w).dropLast.map Fy.D.int) ++ [Fy.D.int ((n :: w).getLast (List.cons_ne_nil _ _))]).length : Nat) : Int)).toNat]? = _
  rw [hk, List.getElem?_append_right (Nat.le_refl _), Nat.sub_self]
  rfl
theorem e_is_way {c : List (List Int)} {st gl w : List Int} {S : List I8} {b : Bool} (h : Case c st gl) (hl : w.length ≤ 100) : F_is_way [dC c, dI st, dI gl, dI w] S b = .ok (.d (.bl (isWay c st gl w))) S := by
  unfold F_is_way m_is_way isWay
  cases hr : rowOf c w with
  | false => simp [x_bnd, x_mret, x_some, x_none, x_mvar, x_mvw, x_mbin, x_mtb, x_tand, x_tor, x_tnot, x_vand, x_vor, x_vnot, x_vif, x_chain, x_m1, x_mN, x_mnil, x_mcons, x_mtup, x_mlst, x_tmlst, x_mcall, x_tcall, x_fz, x_mD, x_get2, x_msl1, x_msl2, x_sseq, x_snext, x_sdrop, x_sset, x_sret, x_sretN, x_sretT, x_sretO, x_sif, x_sraise, x_sasg, x_spar, x_ssetT, x_saug, x_gset, x_gnil, x_gcons, x_gtup, x_gtupL, x_gstar, x_isrc, x_ienum, x_izip, x_irange1, x_run, x_mcomp, x_mlc2, x_mlc, x_sfor, slots0, e_need_all h.sm h.ok h.ls h.lg h.ps h.pg, e_is_row_of_points hl, hr, freeze]
  | true =>
    cases w with
    | nil => cases hr
    | cons n w => 
      by_cases h1 : n ∈ st <;> simp [x_bnd, x_mret, x_some, x_none, x_mvar, x_mvw, x_mbin, x_mtb, x_tand, x_tor, x_tnot, x_vand, x_vor, x_vnot, x_vif, x_chain, x_m1, x_mN, x_mnil, x_mcons, x_mtup, x_mlst, x_tmlst, x_mcall, x_tcall, x_fz, x_mD, x_get2, x_msl1, x_msl2, x_sseq, x_snext, x_sdrop, x_sset, x_sret, x_sretN, x_sretT, x_sretO, x_sif, x_sraise, x_sasg, x_spar, x_ssetT, x_saug, x_gset, x_gnil, x_gcons, x_gtup, x_gtupL, x_gstar, x_isrc, x_ienum, x_izip, x_irange1, x_run, x_mcomp, x_mlc2, x_mlc, x_sfor, slots0, e_need_all h.sm h.ok h.ls h.lg h.ps h.pg, e_is_row_of_points hl, hr, freeze, head_dI, gNeg, last_dI, gIn_dI, h1]
/-- a bar -/
def isBar (c : List (List Int)) (st gl w : List Int) : Bool := points c.length w && (st.all fun i => decide (i ∈ w)) && !(gl.any fun i => decide (i ∈ w)) && (w.flatMap fun i => nx c i).all fun i => decide (i ∈ w)
theorem e_is_bar {c : List (List Int)} {st gl w : List Int} {S : List I8} {b : Bool} (h : Case c st gl) (hl : w.length ≤ 100) : F_is_bar [dC c, dI st, dI gl, dI w] S b = .ok (.d (.bl (isBar c st gl w))) S := by
  have h1 := tn_map (g := gset 4) (t := tyes) (e := mbin (gIn G) (mvar 4) (mvar 3)) (vs := [4]) (q0 := ⟨[some (.d (dC c)), some (.d (dI st)), some (.d (dI gl)), some (.d (dI w)), none, none], S, b⟩) .int (fun _ => true) (fun i => .bl (decide (i ∈ w))) st [] (fun i hi => by
    refine ⟨_, rfl, rfl, fun _ => ?_, rfl, rfl, rfl, rfl⟩
    simp [x_bnd, x_mret, x_some, x_none, x_mvar, x_mvw, x_mbin, x_mtb, x_tand, x_tor, x_tnot, x_vand, x_vor, x_vnot, x_vif, x_chain, x_m1, x_mN, x_mnil, x_mcons, x_mtup, x_mlst, x_tmlst, x_mcall, x_tcall, x_fz, x_mD, x_get2, x_msl1, x_msl2, x_sseq, x_snext, x_sdrop, x_sset, x_sret, x_sretN, x_sretT, x_sretO, x_sif, x_sraise, x_sasg, x_spar, x_ssetT, x_saug, x_gset, x_gnil, x_gcons, x_gtup, x_gtupL, x_gstar, x_isrc, x_ienum, x_izip, x_irange1, x_run, x_mcomp, x_mlc2, x_mlc, x_sfor, gIn_dI]) (szn (by have := h.ls; simp; omega))
  have h2 := tn_map (g := gset 4) (t := tyes) (e := mbin (gIn G) (mvar 4) (mvar 3)) (vs := [4]) (q0 := ⟨[some (.d (dC c)), some (.d (dI st)), some (.d (dI gl)), some (.d (dI w)), none, none], S, b⟩) .int (fun _ => true) (fun i => .bl (decide (i ∈ w))) gl [] (fun i hi => by
    refine ⟨_, rfl, rfl, fun _ => ?_, rfl, rfl, rfl, rfl⟩
    simp [x_bnd, x_mret, x_some, x_none, x_mvar, x_mvw, x_mbin, x_mtb, x_tand, x_tor, x_tnot, x_vand, x_vor, x_vnot, x_vif, x_chain, x_m1, x_mN, x_mnil, x_mcons, x_mtup, x_mlst, x_tmlst, x_mcall, x_tcall, x_fz, x_mD, x_get2, x_msl1, x_msl2, x_sseq, x_snext, x_sdrop, x_sset, x_sret, x_sretN, x_sretT, x_sretO, x_sif, x_sraise, x_sasg, x_spar, x_ssetT, x_saug, x_gset, x_gnil, x_gcons, x_gtup, x_gtupL, x_gstar, x_isrc, x_ienum, x_izip, x_irange1, x_run, x_mcomp, x_mlc2, x_mlc, x_sfor, gIn_dI]) (szn (by have := h.lg; simp; omega))
  rw [all_true] at h1 h2
  simp only [List.nil_append] at h1 h2
  have hn := e_need_all (S := S) (b := false) h.sm h.ok h.ls h.lg h.ps h.pg
  unfold F_is_bar m_is_bar isBar
  cases hp : points c.length w with
  | false => simp [x_bnd, x_mret, x_some, x_none, x_mvar, x_mvw, x_mbin, x_mtb, x_tand, x_tor, x_tnot, x_vand, x_vor, x_vnot, x_vif, x_chain, x_m1, x_mN, x_mnil, x_mcons, x_mtup, x_mlst, x_tmlst, x_mcall, x_tcall, x_fz, x_mD, x_get2, x_msl1, x_msl2, x_sseq, x_snext, x_sdrop, x_sset, x_sret, x_sretN, x_sretT, x_sretO, x_sif, x_sraise, x_sasg, x_spar, x_ssetT, x_saug, x_gset, x_gnil, x_gcons, x_gtup, x_gtupL, x_gstar, x_isrc, x_ienum, x_izip, x_irange1, x_run, x_mcomp, x_mlc2, x_mlc, x_sfor, slots0, hn, freeze, len_dC, e_are_points hl, hp]
  | true =>
    cases hs : (st.all fun i => decide (i ∈ w)) with
    | false => simp [x_bnd, x_mret, x_some, x_none, x_mvar, x_mvw, x_mbin, x_mtb, x_tand, x_tor, x_tnot, x_vand, x_vor, x_vnot, x_vif, x_chain, x_m1, x_mN, x_mnil, x_mcons, x_mtup, x_mlst, x_tmlst, x_mcall, x_tcall, x_fz, x_mD, x_get2, x_msl1, x_msl2, x_sseq, x_snext, x_sdrop, x_sset, x_sret, x_sretN, x_sretT, x_sretO, x_sif, x_sraise, x_sasg, x_spar, x_ssetT, x_saug, x_gset, x_gnil, x_gcons, x_gtup, x_gtupL, x_gstar, x_isrc, x_ienum, x_izip, x_irange1, x_run, x_mcomp, x_mlc2, x_mlc, x_sfor, slots0, hn, freeze, len_dC, e_are_points hl, hp, it_dI, okW, datS, wipeR, h1, gAll_bls, hs]
    | true =>
      cases hg : (gl.any fun i => decide (i ∈ w)) with
      | true => simp [x_bnd, x_mret, x_some, x_none, x_mvar, x_mvw, x_mbin, x_mtb, x_tand, x_tor, x_tnot, x_vand, x_vor, x_vnot, x_vif, x_chain, x_m1, x_mN, x_mnil, x_mcons, x_mtup, x_mlst, x_tmlst, x_mcall, x_tcall, x_fz, x_mD, x_get2, x_msl1, x_msl2, x_sseq, x_snext, x_sdrop, x_sset, x_sret, x_sretN, x_sretT, x_sretO, x_sif, x_sraise, x_sasg, x_spar, x_ssetT, x_saug, x_gset, x_gnil, x_gcons, x_gtup, x_gtupL, x_gstar, x_isrc, x_ienum, x_izip, x_irange1, x_run, x_mcomp, x_mlc2, x_mlc, x_sfor, slots0, hn, freeze, len_dC, e_are_points hl, hp, it_dI, okW, datS, wipeR, h1, h2, gAll_bls, gAny_bls, hs, hg]
      | false =>
        have hb : ∀ xs : List Int, xs.length ≤ 100 → (∀ x ∈ xs, x ∈ w) → (xs.map fun x => (nx c x).length).sum ≤ 100 * xs.length := by
          intro xs _ hx
          induction xs with
          | nil => simp
          | cons x xs ih =>
            have hin : inn x 0 (c.length - 1) = true := by
              unfold points at hp
              exact List.all_eq_true.mp (Bool.and_eq_true_iff.mp hp).1 x (hx x (by simp))
            have : (nx c x).length ≤ 100 := by
              unfold inn at hin
              simp only [Bool.and_eq_true, decide_eq_true_eq] at hin
              have hk : x.toNat < c.length := by omega
              unfold nx
              rw [List.getD_eq_getElem?_getD, List.getElem?_eq_getElem hk]
              exact h.sm.a _ (List.getElem_mem hk)
            have := ih (by simp at *; omega) (fun y hy => hx y (by simp [hy]))
            rw [List.map_cons, List.sum_cons, List.length_cons]
            omega
        have h3 := tn2_map (g := gset 4) (t := tyes) (it1 := isrc (mbin (gIx G) (mvar 0) (mvar 4))) (g1 := gset 5) (t1 := tyes) (e := mbin (gIn G) (mvar 5) (mvar 3)) (vs := [4, 5]) (vs1 := [5]) (q0 := ⟨[some (.d (dC c)), some (.d (dI st)), some (.d (dI gl)), some (.d (dI w)), none, none], S, b⟩)
          .int (fun x => nx c x) .int (fun _ => true) (fun _ _ => true) (fun _ y => .bl (decide (y ∈ w))) w [] (fun x hx => by
            have hin : inn x 0 (c.length - 1) = true := by
              unfold points at hp
              exact List.all_eq_true.mp (Bool.and_eq_true_iff.mp hp).1 x hx
            refine ⟨_, rfl, rfl, rfl, rfl, rfl, rfl, fun _ => ⟨?_, rfl, rfl, rfl, fun y hy => ⟨_, rfl, rfl, fun _ => ?_, rfl, rfl, rfl, rfl⟩⟩⟩
            · simp [x_bnd, x_mret, x_some, x_none, x_mvar, x_mvw, x_mbin, x_mtb, x_tand, x_tor, x_tnot, x_vand, x_vor, x_vnot, x_vif, x_chain, x_m1, x_mN, x_mnil, x_mcons, x_mtup, x_mlst, x_tmlst, x_mcall, x_tcall, x_fz, x_mD, x_get2, x_msl1, x_msl2, x_sseq, x_snext, x_sdrop, x_sset, x_sret, x_sretN, x_sretT, x_sretO, x_sif, x_sraise, x_sasg, x_spar, x_ssetT, x_saug, x_gset, x_gnil, x_gcons, x_gtup, x_gtupL, x_gstar, x_isrc, x_ienum, x_izip, x_irange1, x_run, x_mcomp, x_mlc2, x_mlc, x_sfor, ix_dC hin, it_dI]
            · simp [x_bnd, x_mret, x_some, x_none, x_mvar, x_mvw, x_mbin, x_mtb, x_tand, x_tor, x_tnot, x_vand, x_vor, x_vnot, x_vif, x_chain, x_m1, x_mN, x_mnil, x_mcons, x_mtup, x_mlst, x_tmlst, x_mcall, x_tcall, x_fz, x_mD, x_get2, x_msl1, x_msl2, x_sseq, x_snext, x_sdrop, x_sset, x_sret, x_sretN, x_sretT, x_sretO, x_sif, x_sraise, x_sasg, x_spar, x_ssetT, x_saug, x_gset, x_gnil, x_gcons, x_gtup, x_gtupL, x_gstar, x_isrc, x_ienum, x_izip, x_irange1, x_run, x_mcomp, x_mlc2, x_mlc, x_sfor, gIn_dI, wipeR]) (by
            have := hb w hl (fun _ h => h)
            rw [sizeLine_eq]; simp; omega)
        rw [all_true] at h3
        simp only [List.nil_append, all_true] at h3
        have e3 : (w.flatMap fun x => (nx c x).map fun y => Fy.D.bl (decide (y ∈ w))) = (w.flatMap fun x => nx c x).map fun y => Fy.D.bl (decide (y ∈ w)) := by rw [List.map_flatMap]
        rw [e3] at h3
        simp [x_bnd, x_mret, x_some, x_none, x_mvar, x_mvw, x_mbin, x_mtb, x_tand, x_tor, x_tnot, x_vand, x_vor, x_vnot, x_vif, x_chain, x_m1, x_mN, x_mnil, x_mcons, x_mtup, x_mlst, x_tmlst, x_mcall, x_tcall, x_fz, x_mD, x_get2, x_msl1, x_msl2, x_sseq, x_snext, x_sdrop, x_sset, x_sret, x_sretN, x_sretT, x_sretO, x_sif, x_sraise, x_sasg, x_spar, x_ssetT, x_saug, x_gset, x_gnil, x_gcons, x_gtup, x_gtupL, x_gstar, x_isrc, x_ienum, x_izip, x_irange1, x_run, x_mcomp, x_mlc2, x_mlc, x_sfor, slots0, hn, freeze, len_dC, e_are_points hl, hp, it_dI, okW, datS, wipeR, h1, h2, h3, gAll_bls, gAny_bls, hs, hg]

/-! ### come_to -/
theorem look_ints (f : Int → Fy.D) (y : Int) : ∀ xs : List Int, dlook keyK (xs.map Fy.D.int) (xs.map f) (.inl y) = if y ∈ xs then some (f y) else none
  | [] => rfl
  | x :: xs => by
    rw [List.map_cons, List.map_cons]
    unfold dlook
    by_cases h : x = y
    · subst h; simp [keyK]
    · have : ¬ (keyK (Fy.D.int x) = some (Sum.inl y)) := fun z => h (by simpa [keyK] using z)
      rw [if_neg this, look_ints f y xs]
      by_cases h2 : y ∈ xs
      · rw [if_pos h2, if_pos (List.mem_cons_of_mem _ h2)]
      · rw [if_neg h2, if_neg (by simp only [List.mem_cons, not_or]; exact ⟨fun z => h z.symm, h2⟩)]
theorem any_ints (y : Int) : ∀ xs : List Int, ((xs.map Fy.D.int).any fun k => decide (keyK k = some (Sum.inl y))) = decide (y ∈ xs)
  | [] => rfl
  | x :: xs => by
    rw [List.map_cons, List.any_cons, any_ints y xs]
    by_cases h : x = y
    · subst h; simp [keyK]
    · simp [keyK, h, Ne.symm h]
theorem dput_new {xs : List Int} {y : Int} {vs : List Fy.D} {d : Fy.D} (h : y ∉ xs) : dput (xs.map Fy.D.int) vs (.inl y) (.int y) d = ((xs ++ [y]).map .int, vs ++ [d]) := by
  unfold dput
  rw [any_ints, decide_eq_false h]
  simp
/-- a dict of keys that are whole numbers -/
theorem tnD_ints {g : GT} {t : Q8 → Out Bool} {mk mv : M8} {vs : List Nat} {q0 : Q8} (f : Int → Fy.D) : ∀ (xs ks : List Int), (∀ x ∈ xs, ∃ q2, g (.int x) q0 = some q2 ∧ t q2 = .ok true q2 ∧ mk q2 = .ok (.int x) q2 ∧ mv q2 = .ok (f x) q2 ∧ okW q2.r vs = true ∧ wipeR q2.r vs = q0.r ∧ q2.s = q0.s ∧ q2.w = q0.w) →
    (ks ++ xs).Nodup → ks.length + xs.length ≤ sizeLine → tnL g t (stD mk mv) vs (xs.map .int) (ks.map .int, ks.map f) q0 = .ok ((ks ++ xs).map .int, (ks ++ xs).map f) q0
  | [], ks, _, _, _ => by simp [tnL, mret]
  | x :: xs, ks, h, nd, hl => by
    obtain ⟨q2, hg, ht, hk, hv, ho, hr, hs, hw⟩ := h x (by simp)
    have eq : (⟨wipeR q2.r vs, q2.s, q2.w⟩ : Q8) = q0 := by rw [hr, hs, hw]
    have nx : x ∉ ks := fun z => (List.nodup_append.mp nd).2.2 x z x (by simp) rfl
    have ih := tnD_ints (g := g) (t := t) (mk := mk) (mv := mv) (vs := vs) (q0 := q0) f xs (ks ++ [x]) (fun d hd => h d (List.mem_cons_of_mem _ hd)) (by rw [List.append_assoc]; exact nd) (by rw [List.length_append, List.length_cons] at *; simp at *; omega)
    rw [List.length_cons] at hl
    have hst : stD mk mv (ks.map .int, ks.map f) q2 = .ok ((ks ++ [x]).map .int, (ks ++ [x]).map f) q2 := by
      unfold stD bnd
      rw [hk]
      dsimp only
      rw [hv]
      dsimp only [keyK]
      rw [if_pos (by rw [List.length_map]; omega), dput_new nx]
      simp
    rw [List.map_cons]
    unfold tnL
    rw [hg]
    dsimp only
    rw [ht]
    dsimp only
    rw [hst]
    dsimp only
    rw [if_pos ho, eq, ih, List.append_assoc]
    rfl
def tru (_ : Int) : Fy.D := .bl true
abbrev qC (c : List (List Int)) (st : List Int) (S : List I8) (b : Bool) (k : Int) (l : List Int) (o : Option T) : Q8 := ⟨[some (.d (dC c)), some (.d (dI st)), some (.fd false (l.map .int) (l.map tru)), some (.fl (l.map .int)), some (.d (.int k)), o, none], S, b⟩
def put1 (l : List Int) (y : Int) : List Int := if y ∈ l then l else l ++ [y]
def ext (l : List Int) : List Int → List Int
  | [] => l
  | y :: ns => ext (put1 l y) ns
theorem come_f1 {c : List (List Int)} {st l : List Int} {S : List I8} {b : Bool} {k y : Int} (hl : l.length ≤ 1000) : f1_come_to (qC c st S b k l (some (.d (.int y)))) = .ok .nx (qC c st S b k (put1 l y) (some (.d (.int y)))) := by
  unfold f1_come_to put1
  have hz : l.length < sizeLine := by rw [sizeLine_eq]; omega
  by_cases h : y ∈ l
  · simp [x_bnd, x_mret, x_some, x_none, x_mvar, x_mvw, x_mbin, x_mtb, x_tand, x_tor, x_tnot, x_vand, x_vor, x_vnot, x_vif, x_chain, x_m1, x_mN, x_mnil, x_mcons, x_mtup, x_mlst, x_tmlst, x_mcall, x_tcall, x_fz, x_mD, x_get2, x_msl1, x_msl2, x_sseq, x_snext, x_sdrop, x_sset, x_sret, x_sretN, x_sretT, x_sretO, x_sif, x_sraise, x_sasg, x_spar, x_ssetT, x_saug, x_gset, x_gnil, x_gcons, x_gtup, x_gtupL, x_gstar, x_isrc, x_ienum, x_izip, x_irange1, x_run, x_mcomp, x_mlc2, x_mlc, x_sfor, seen, seenT, gNotIn, dIn, dGet, keyK, look_ints, h]
  · simp [x_bnd, x_mret, x_some, x_none, x_mvar, x_mvw, x_mbin, x_mtb, x_tand, x_tor, x_tnot, x_vand, x_vor, x_vnot, x_vif, x_chain, x_m1, x_mN, x_mnil, x_mcons, x_mtup, x_mlst, x_tmlst, x_mcall, x_tcall, x_fz, x_mD, x_get2, x_msl1, x_msl2, x_sseq, x_snext, x_sdrop, x_sset, x_sret, x_sretN, x_sretT, x_sretO, x_sif, x_sraise, x_sasg, x_spar, x_ssetT, x_saug, x_gset, x_gnil, x_gcons, x_gtup, x_gtupL, x_gstar, x_isrc, x_ienum, x_izip, x_irange1, x_run, x_mcomp, x_mlc2, x_mlc, x_sfor, seen, seenT, gNotIn, dIn, dGet, keyK, look_ints, h, ssub, sapp, own, upd8, dput_new, hz, tru]

theorem put1_len (l : List Int) (y : Int) : l.length ≤ (put1 l y).length ∧ (put1 l y).length ≤ l.length + 1 := by
  unfold put1
  split
  · omega
  · rw [List.length_append, List.length_singleton]; omega
theorem put1_nodup {l : List Int} {y : Int} (h : l.Nodup) : (put1 l y).Nodup := by
  unfold put1
  split
  · exact h
  · rename_i hn
    exact List.nodup_append.mpr ⟨h, by simp, fun a ha b hb e => hn (by rw [← List.mem_singleton.mp hb, ← e]; exact ha)⟩
theorem put1_pre (l : List Int) (y : Int) : l <+: put1 l y := by
  unfold put1
  split
  · exact List.prefix_refl _
  · exact List.prefix_append _ _
theorem put1_mem {l : List Int} {y z : Int} : z ∈ put1 l y ↔ z ∈ l ∨ z = y := by
  unfold put1
  split
  · rename_i h
    exact ⟨.inl, fun z => z.elim id fun e => e ▸ h⟩
  · simp
theorem ext_pre : ∀ (ns l : List Int), l <+: ext l ns
  | [], l => List.prefix_refl _
  | y :: ns, l => (put1_pre l y).trans (ext_pre ns _)
theorem ext_nodup : ∀ (ns : List Int) {l : List Int}, l.Nodup → (ext l ns).Nodup
  | [], _, h => h
  | y :: ns, _, h => ext_nodup ns (put1_nodup h)
theorem ext_mem : ∀ (ns : List Int) {l : List Int} {z : Int}, z ∈ ext l ns ↔ z ∈ l ∨ z ∈ ns
  | [], l, z => by simp [ext]
  | y :: ns, l, z => by
    show z ∈ ext (put1 l y) ns ↔ _
    rw [ext_mem ns, put1_mem, List.mem_cons]
    constructor
    · rintro ((h | h) | h) <;> simp [h]
    · rintro (h | h | h) <;> simp [h]
theorem ext_len : ∀ (ns l : List Int), (ext l ns).length ≤ l.length + ns.length
  | [], l => by simp [ext]
  | y :: ns, l => by
    have := ext_len ns (put1 l y)
    have := (put1_len l y).2
    show (ext (put1 l y) ns).length ≤ _
    rw [List.length_cons]; omega
def dat (o : Option T) : Prop := o = none ∨ ∃ d, o = some (.d d)
theorem come_for {c : List (List Int)} {st : List Int} {S : List I8} {b : Bool} {k : Int} : ∀ (ns l : List Int) (o : Option T), dat o → l.length + ns.length ≤ 1000 → ∃ o', dat o' ∧ sforL (gset 5) f1_come_to (ns.map .int) (qC c st S b k l o) = .ok .nx (qC c st S b k (ext l ns) o')
  | [], l, o, ho, _ => ⟨o, ho, rfl⟩
  | y :: ns, l, o, ho, hl => by
    rw [List.length_cons] at hl
    have hp := (put1_len l y).2
    obtain ⟨o', h1, h2⟩ := come_for (c := c) (st := st) (S := S) (b := b) (k := k) ns (put1 l y) (some (.d (.int y))) (.inr ⟨_, rfl⟩) (by omega)
    refine ⟨o', h1, ?_⟩
    rw [List.map_cons]
    unfold sforL
    have hg : gset 5 (.int y) (qC c st S b k l o) = some (qC c st S b k l (some (.d (.int y)))) := by
      rcases ho with rfl | ⟨d, rfl⟩ <;> rfl
    rw [hg]
    dsimp only
    unfold bnd
    rw [come_f1 (by omega)]
    exact h2
/-- one turn of the while -/
theorem come_w2 {c : List (List Int)} {st l : List Int} {S : List I8} {b : Bool} {k : Nat} {o : Option T} {p : Int} (h : Sm c) (hk : l[k]? = some p) (hp : inn p 0 (c.length - 1) = true) (ho : dat o) (hl : l.length ≤ 500) :
    ∃ o', dat o' ∧ w2_come_to (qC c st S b k l o) = .ok .nx (qC c st S b (k + 1 : Nat) (ext l (nx c p)) o') := by
  have hn : (nx c p).length ≤ 100 := by
    unfold inn at hp
    simp only [Bool.and_eq_true, decide_eq_true_eq] at hp
    have hk : p.toNat < c.length := by omega
    unfold nx
    rw [List.getD_eq_getElem?_getD, List.getElem?_eq_getElem hk]
    exact h.a _ (List.getElem_mem hk)
  obtain ⟨o', h1, h2⟩ := come_for (c := c) (st := st) (S := S) (b := b) (k := (k : Int)) (nx c p) l o ho (by omega)
  refine ⟨o', h1, ?_⟩
  have hix : gIx G S (.lst (l.map .int)) (.int (k : Int)) = some (.int p) := atI_nat (by omega) (by simp [hk])
  unfold w2_come_to
  rw [x_sseq, x_sfor]
  have hs : isrc (mbin (gIx G) (mvar 0) (mbin (gIx G) (mvw 3) (mvar 4))) (qC c st S b k l o) = .ok ((nx c p).map .int) (qC c st S b k l o) := by
    simp [x_bnd, x_mret, x_some, x_none, x_mvar, x_mvw, x_mbin, x_mtb, x_tand, x_tor, x_tnot, x_vand, x_vor, x_vnot, x_vif, x_chain, x_m1, x_mN, x_mnil, x_mcons, x_mtup, x_mlst, x_tmlst, x_mcall, x_tcall, x_fz, x_mD, x_get2, x_msl1, x_msl2, x_sseq, x_snext, x_sdrop, x_sset, x_sret, x_sretN, x_sretT, x_sretO, x_sif, x_sraise, x_sasg, x_spar, x_ssetT, x_saug, x_gset, x_gnil, x_gcons, x_gtup, x_gtupL, x_gstar, x_isrc, x_ienum, x_izip, x_irange1, x_run, x_mcomp, x_mlc2, x_mlc, x_sfor, seen, seenT, hix, ix_dC hp, it_dI]
  rw [hs]
  dsimp only
  rw [h2]
  simp [x_bnd, x_mret, x_some, x_none, x_mvar, x_mvw, x_mbin, x_mtb, x_tand, x_tor, x_tnot, x_vand, x_vor, x_vnot, x_vif, x_chain, x_m1, x_mN, x_mnil, x_mcons, x_mtup, x_mlst, x_tmlst, x_mcall, x_tcall, x_fz, x_mD, x_get2, x_msl1, x_msl2, x_sseq, x_snext, x_sdrop, x_sset, x_sret, x_sretN, x_sretT, x_sretO, x_sif, x_sraise, x_sasg, x_spar, x_ssetT, x_saug, x_gset, x_gnil, x_gcons, x_gtup, x_gtupL, x_gstar, x_isrc, x_ienum, x_izip, x_irange1, x_run, x_mcomp, x_mlc2, x_mlc, x_sfor]

theorem nodup_bound : ∀ (m : Nat) {l : List Int}, l.Nodup → (∀ x ∈ l, 0 ≤ x ∧ x < (m : Int)) → l.length ≤ m
  | 0, l, _, h => by
    cases l with
    | nil => simp
    | cons x l => have := h x (by simp); omega
  | m + 1, l, nd, h => by
    have h1 := nodup_bound m (nd.erase (m : Int)) (fun x hx => by
      have hm := (nd.mem_erase_iff).mp hx
      have := h x hm.2
      have : x ≠ (m : Int) := hm.1
      omega)
    have h2 : l.length ≤ (l.erase (m : Int)).length + 1 := by rw [List.length_erase]; split <;> omega
    omega
theorem inn_iff {x : Int} {n : Nat} : inn x 0 ((n : Int) - 1) = true ↔ 0 ≤ x ∧ x < (n : Int) := by
  unfold inn
  simp only [Bool.and_eq_true, decide_eq_true_eq]
  omega
theorem nx_mem {c : List (List Int)} {p : Int} (hp : inn p 0 (c.length - 1) = true) : nx c p ∈ c := by
  have := inn_iff.mp hp
  have hk : p.toNat < c.length := by omega
  unfold nx
  rw [List.getD_eq_getElem?_getD, List.getElem?_eq_getElem hk]
  exact List.getElem_mem hk
theorem nx_in {c : List (List Int)} {p y : Int} (hc : chartOk c = true) (hp : inn p 0 (c.length - 1) = true) (hy : y ∈ nx c p) : inn y 0 (c.length - 1) = true := by
  have h1 : points c.length (nx c p) = true := List.all_eq_true.mp hc _ (nx_mem hp)
  unfold points at h1
  exact List.all_eq_true.mp (Bool.and_eq_true_iff.mp h1).1 y hy
inductive Rch (c : List (List Int)) (st : List Int) : Int → Prop
  | base {x : Int} : x ∈ st → Rch c st x
  | step {x y : Int} : Rch c st x → y ∈ nx c x → Rch c st y
def condC : Q8 → Out Bool := mtb (mbin gLt (mvar 4) (m1 gLen (mvw 3)))
theorem come_cond {c : List (List Int)} {st l : List Int} {S : List I8} {b : Bool} {k : Nat} {o : Option T} : condC (qC c st S b k l o) = .ok (decide (k < l.length)) (qC c st S b k l o) := by
  unfold condC
  simp [x_bnd, x_mret, x_some, x_none, x_mvar, x_mvw, x_mbin, x_mtb, x_tand, x_tor, x_tnot, x_vand, x_vor, x_vnot, x_vif, x_chain, x_m1, x_mN, x_mnil, x_mcons, x_mtup, x_mlst, x_tmlst, x_mcall, x_tcall, x_fz, x_mD, x_get2, x_msl1, x_msl2, x_sseq, x_snext, x_sdrop, x_sset, x_sret, x_sretN, x_sretT, x_sretO, x_sif, x_sraise, x_sasg, x_spar, x_ssetT, x_saug, x_gset, x_gnil, x_gcons, x_gtup, x_gtupL, x_gstar, x_isrc, x_ienum, x_izip, x_irange1, x_run, x_mcomp, x_mlc2, x_mlc, x_sfor, seen, seenT, gLen, gLt]
structure CI (c : List (List Int)) (st l : List Int) (k : Nat) : Prop where
  nd : l.Nodup
  inr : ∀ p ∈ l, inn p 0 (c.length - 1) = true
  le : k ≤ l.length
  cl : ∀ (i : Nat) (p : Int), i < k → l[i]? = some p → ∀ y ∈ nx c p, y ∈ l
  rc : ∀ p ∈ l, Rch c st p
  st : ∀ p ∈ st, p ∈ l
theorem CI.len {c : List (List Int)} {st l : List Int} {k : Nat} (h : CI c st l k) : l.length ≤ c.length := nodup_bound c.length h.nd fun x hx => inn_iff.mp (h.inr x hx)
theorem come_while {c : List (List Int)} {st : List Int} (h : Sm c) (hc : chartOk c = true) : ∀ (n k : Nat) (l : List Int), CI c st l k → c.length - k ≤ n →
    ∃ l', CI c st l' l'.length ∧ ∀ (S : List I8) (b : Bool) (o : Option T), dat o → ∃ o', dat o' ∧ swhileN condC w2_come_to (n + 1) (qC c st S b k l o) = .ok .nx (qC c st S b l'.length l' o')
  | n, k, l, I, hn => by
    have hlen := I.len
    have hcl := h.l
    by_cases hk : k < l.length
    · have ek : l[k]? = some l[k] := List.getElem?_eq_getElem hk
      have hin := I.inr _ (List.getElem_mem hk)
      have pre := ext_pre (nx c l[k]) l
      have I2 : CI c st (ext l (nx c l[k])) (k + 1) := by
        refine ⟨ext_nodup _ I.nd, fun p hp => ?_, ?_, fun i p hi hp y hy => ?_, fun p hp => ?_, fun p hp => (ext_mem _).mpr (.inl (I.st p hp))⟩
        · rcases (ext_mem _).mp hp with z | z
          · exact I.inr p z
          · exact nx_in hc hin z
        · have := pre.length_le; omega
        · have hi2 : i < l.length := by omega
          have e2 : (ext l (nx c l[k]))[i]? = l[i]? := by
            obtain ⟨t, et⟩ := pre
            rw [← et, List.getElem?_append_left hi2]
          rw [e2] at hp
          by_cases hik : i < k
          · exact (ext_mem _).mpr (.inl (I.cl i p hik hp y hy))
          · have : i = k := by omega
            subst this
            rw [ek] at hp
            cases hp
            exact (ext_mem _).mpr (.inr hy)
        · rcases (ext_mem _).mp hp with z | z
          · exact I.rc p z
          · exact .step (I.rc _ (List.getElem_mem hk)) z
      cases n with
      | zero => omega
      | succ n =>
        obtain ⟨l', g3, g⟩ := come_while h hc n (k + 1) (ext l (nx c l[k])) I2 (by omega)
        refine ⟨l', g3, fun S b o ho => ?_⟩
        obtain ⟨o1, h1, h2⟩ := come_w2 (c := c) (st := st) (S := S) (b := b) h ek hin ho (by omega)
        obtain ⟨o', g1, g2⟩ := g S b o1 h1
        refine ⟨o', g1, ?_⟩
        rw [swhileN]
        unfold bnd
        rw [come_cond]
        dsimp only
        rw [decide_eq_true hk]
        simp only [if_true]
        rw [h2]
        exact g2
    · have : k = l.length := by have := I.le; omega
      subst this
      refine ⟨l, I, fun S b o ho => ⟨o, ho, ?_⟩⟩
      unfold swhileN bnd
      rw [come_cond]
      dsimp only
      rw [decide_eq_false hk]
      simp only [Bool.false_eq_true, if_false]
      rfl

theorem points_nodup {m : Int} : ∀ {ns : List Int}, rising ns = true → ns.Pairwise (· < ·)
  | [], _ => .nil
  | [x], _ => List.pairwise_singleton _ _
  | x :: y :: ns, h => by
    unfold rising at h
    simp only [List.tail_cons, List.zip_cons_cons, List.all_cons, Bool.and_eq_true, decide_eq_true_eq] at h
    have ih := points_nodup (m := m) (ns := y :: ns) (by unfold rising; exact h.2)
    refine List.pairwise_cons.mpr ⟨fun z hz => ?_, ih⟩
    rcases List.mem_cons.mp hz with e | e
    · rw [e]; exact h.1
    · have := (List.pairwise_cons.mp ih).1 z e
      omega
theorem points_iff {m : Int} {ns : List Int} : points m ns = true ↔ (∀ x ∈ ns, inn x 0 (m - 1) = true) ∧ rising ns = true := by
  unfold points
  rw [Bool.and_eq_true, List.all_eq_true]
theorem points_nd {m : Int} {ns : List Int} (h : points m ns = true) : ns.Nodup := (points_nodup (m := m) (points_iff.mp h).2).imp fun h => by omega
theorem e_come_to {c : List (List Int)} {st : List Int} (h : Sm c) (hc : chartOk c = true) (hs : points c.length st = true) :
    ∃ R : List Int, (∀ S b, F_come_to [dC c, dI st] S b = .ok (.d (dI (srt R))) S) ∧ CI c st R R.length := by
  have hnd := points_nd hs
  have hin := (points_iff.mp hs).1
  have I0 : CI c st st 0 := ⟨hnd, hin, by omega, fun i p hi => by omega, fun p hp => .base hp, fun p hp => hp⟩
  have hlen := I0.len
  have hcl := h.l
  obtain ⟨R, I, hw0⟩ := come_while h hc c.length 0 st I0 (by omega)
  refine ⟨R, fun S b => ?_, I⟩
  obtain ⟨o', _, hw⟩ := hw0 S b none (.inl rfl)
  have hd := tnD_ints (g := gset 6) (t := tyes) (mk := mvar 6) (mv := mret (.bl true)) (vs := [6]) (q0 := ⟨[some (.d (dC c)), some (.d (dI st)), none, none, none, none, none], S, b⟩) tru st [] (fun x hx => ⟨_, rfl, rfl, by simp [x_bnd, x_mret, x_some, x_none, x_mvar, x_mvw, x_mbin, x_mtb, x_tand, x_tor, x_tnot, x_vand, x_vor, x_vnot, x_vif, x_chain, x_m1, x_mN, x_mnil, x_mcons, x_mtup, x_mlst, x_tmlst, x_mcall, x_tcall, x_fz, x_mD, x_get2, x_msl1, x_msl2, x_sseq, x_snext, x_sdrop, x_sset, x_sret, x_sretN, x_sretT, x_sretO, x_sif, x_sraise, x_sasg, x_spar, x_ssetT, x_saug, x_gset, x_gnil, x_gcons, x_gtup, x_gtupL, x_gstar, x_isrc, x_ienum, x_izip, x_irange1, x_run, x_mcomp, x_mlc2, x_mlc, x_sfor], rfl, rfl, rfl, rfl, rfl⟩) (by simpa using hnd) (szn (by simp; omega))
  simp only [List.nil_append, List.map_nil] at hd
  have hint : intsD (R.map .int) = some R := by
    have : ∀ xs : List Int, intsD (xs.map .int) = some xs := by
      intro xs
      induction xs with
      | nil => rfl
      | cons x xs ih => simp [intsD, ih]
    exact this R
  have hR := I.len
  have hgs : gSorted S (.dic false (R.map .int) (R.map tru)) = some (.lst ((srt R).map .int)) := by
    unfold gSorted
    dsimp only
    rw [hint]
    simp only [Option.bind_some]
    rw [if_pos (by omega)]
  unfold F_come_to m_come_to
  have hwh : swhile (mtb (mbin gLt (mvar 4) (m1 gLen (mvw 3)))) w2_come_to (qC c st S b (0 : Nat) st none) = .ok .nx (qC c st S b R.length R o') := swhile_of hw (by simp)
  have hwh2 : swhile (mtb (mbin gLt (mvar 4) (m1 gLen (mvw 3)))) w2_come_to (qC c st S b 0 st none) = .ok .nx (qC c st S b R.length R o') := hwh
  unfold tmdc
  have hml : ∀ q : Q8, q.r[1]? = some (some (.d (dI st))) → tmlist (mvar 1) q = .ok (.fl (st.map .int)) q := by
    intro q hq
    unfold tmlist bnd
    rw [x_mvar, hq]
    rfl
  have hgt : gTuple S (.lst ((srt R).map .int)) = some (dI (srt R)) := rfl
  simp [x_bnd, x_mret, x_some, x_none, x_mvar, x_mvw, x_mbin, x_mtb, x_tand, x_tor, x_tnot, x_vand, x_vor, x_vnot, x_vif, x_chain, x_m1, x_mN, x_mnil, x_mcons, x_mtup, x_mlst, x_tmlst, x_mcall, x_tcall, x_fz, x_mD, x_get2, x_msl1, x_msl2, x_sseq, x_snext, x_sdrop, x_sset, x_sret, x_sretN, x_sretT, x_sretO, x_sif, x_sraise, x_sasg, x_spar, x_ssetT, x_saug, x_gset, x_gnil, x_gcons, x_gtup, x_gtupL, x_gstar, x_isrc, x_ienum, x_izip, x_irange1, x_run, x_mcomp, x_mlc2, x_mlc, x_sfor, slots0, it_dI, okW, datS, wipeR, hd, hml, hwh2, seen, seenT, hgs, hgt]

/-! ### ahead_of -/
abbrev qA (c : List (List Int)) (gl : List Int) (S : List I8) (b : Bool) (k : Int) (l : List Int) (f : Int → Int) (o5 o6 : Option T) : Q8 := ⟨[some (.d (dC c)), some (.d (dI gl)), some (.fd false (l.map .int) (l.map fun p => .int (f p))), some (.fl (l.map .int)), some (.d (.int k)), o5, o6, none], S, b⟩
def setF (f : Int → Int) (y v : Int) : Int → Int := fun x => if x = y then v else f x
theorem setF_map {f : Int → Int} {y v : Int} : ∀ {l : List Int}, y ∉ l → (l.map fun p => Fy.D.int (setF f y v p)) = l.map fun p => Fy.D.int (f p)
  | [], _ => rfl
  | x :: l, h => by
    have h1 : x ≠ y := fun e => h (by simp [e])
    rw [List.map_cons, List.map_cons, setF_map (fun z => h (List.mem_cons_of_mem _ z))]
    unfold setF
    rw [if_neg h1]
theorem ahead_f1 {c : List (List Int)} {gl l ns : List Int} {f : Int → Int} {S : List I8} {b : Bool} {k : Nat} {p y : Int} (hk : l[k]? = some p) (hl : l.length ≤ 1000) :
    f1_ahead_of (qA c gl S b k l f (some (.d (.int y))) (some (.d (dI ns)))) = .ok .nx (if p ∈ ns ∧ y ∉ l then qA c gl S b k (l ++ [y]) (setF f y (f p + 1)) (some (.d (.int y))) (some (.d (dI ns))) else qA c gl S b k l f (some (.d (.int y))) (some (.d (dI ns)))) := by
  have hz : l.length < sizeLine := by rw [sizeLine_eq]; omega
  have hix : gIx G S (.lst (l.map .int)) (.int (k : Int)) = some (.int p) := atI_nat (by omega) (by simp [hk])
  have hp : p ∈ l := List.mem_of_getElem? hk
  have hfx : gIx G S (.dic false (l.map .int) (l.map fun p => .int (f p))) (.int p) = some (.int (f p)) := by
    simp [gIx, dGet, keyK, look_ints, hp]
  have hni : gNotIn G S (.int y) (.dic false (l.map .int) (l.map fun p => .int (f p))) = some (.bl (decide (y ∉ l))) := by
    by_cases h : y ∈ l <;> simp [gNotIn, dIn, dGet, keyK, look_ints, h]
  unfold f1_ahead_of
  by_cases h1 : p ∈ ns
  · by_cases h2 : y ∈ l
    · simp [x_bnd, x_mret, x_some, x_none, x_mvar, x_mvw, x_mbin, x_mtb, x_tand, x_tor, x_tnot, x_vand, x_vor, x_vnot, x_vif, x_chain, x_m1, x_mN, x_mnil, x_mcons, x_mtup, x_mlst, x_tmlst, x_mcall, x_tcall, x_fz, x_mD, x_get2, x_msl1, x_msl2, x_sseq, x_snext, x_sdrop, x_sset, x_sret, x_sretN, x_sretT, x_sretO, x_sif, x_sraise, x_sasg, x_spar, x_ssetT, x_saug, x_gset, x_gnil, x_gcons, x_gtup, x_gtupL, x_gstar, x_isrc, x_ienum, x_izip, x_irange1, x_run, x_mcomp, x_mlc2, x_mlc, x_sfor, seen, seenT, hix, gIn_dI, h1, hni, h2]
    · simp [x_bnd, x_mret, x_some, x_none, x_mvar, x_mvw, x_mbin, x_mtb, x_tand, x_tor, x_tnot, x_vand, x_vor, x_vnot, x_vif, x_chain, x_m1, x_mN, x_mnil, x_mcons, x_mtup, x_mlst, x_tmlst, x_mcall, x_tcall, x_fz, x_mD, x_get2, x_msl1, x_msl2, x_sseq, x_snext, x_sdrop, x_sset, x_sret, x_sretN, x_sretT, x_sretO, x_sif, x_sraise, x_sasg, x_spar, x_ssetT, x_saug, x_gset, x_gnil, x_gcons, x_gtup, x_gtupL, x_gstar, x_isrc, x_ienum, x_izip, x_irange1, x_run, x_mcomp, x_mlc2, x_mlc, x_sfor, seen, seenT, hix, gIn_dI, h1, hni, h2, ssub, sapp, own, upd8, dput_new, hz, hfx, gAdd, keyK, setF_map]
      simp [setF]
  · simp [x_bnd, x_mret, x_some, x_none, x_mvar, x_mvw, x_mbin, x_mtb, x_tand, x_tor, x_tnot, x_vand, x_vor, x_vnot, x_vif, x_chain, x_m1, x_mN, x_mnil, x_mcons, x_mtup, x_mlst, x_tmlst, x_mcall, x_tcall, x_fz, x_mD, x_get2, x_msl1, x_msl2, x_sseq, x_snext, x_sdrop, x_sset, x_sret, x_sretN, x_sretT, x_sretO, x_sif, x_sraise, x_sasg, x_spar, x_ssetT, x_saug, x_gset, x_gnil, x_gcons, x_gtup, x_gtupL, x_gstar, x_isrc, x_ienum, x_izip, x_irange1, x_run, x_mcomp, x_mlc2, x_mlc, x_sfor, seen, seenT, hix, gIn_dI, h1]

def stA (p : Int) (s : List Int × (Int → Int)) (x : List Int × Nat) : List Int × (Int → Int) := if p ∈ x.1 ∧ (x.2 : Int) ∉ s.1 then (s.1 ++ [(x.2 : Int)], setF s.2 x.2 (s.2 p + 1)) else s
theorem ahead_for {c : List (List Int)} {gl : List Int} {S : List I8} {b : Bool} {k : Nat} {p : Int} : ∀ (ps : List (List Int × Nat)) (s : List Int × (Int → Int)) (o5 o6 : Option T), dat o5 → dat o6 → s.1[k]? = some p → s.1.length + ps.length ≤ 1000 →
    ∃ o5' o6', dat o5' ∧ dat o6' ∧ sforL (gtup 2 (gcons (gset 5) (gcons (gset 6) gnil))) f1_ahead_of (ps.map fun x => .tup [.int (x.2 : Nat), dI x.1]) (qA c gl S b k s.1 s.2 o5 o6) = .ok .nx (qA c gl S b k (ps.foldl (stA p) s).1 (ps.foldl (stA p) s).2 o5' o6')
  | [], s, o5, o6, h5, h6, _, _ => ⟨o5, o6, h5, h6, rfl⟩
  | x :: ps, s, o5, o6, h5, h6, hk, hl => by
    rw [List.length_cons] at hl
    have hlen : (stA p s x).1.length ≤ s.1.length + 1 := by
      unfold stA; split <;> simp
    have hk2 : (stA p s x).1[k]? = some p := by
      unfold stA
      split
      · rw [List.getElem?_append_left (List.getElem?_eq_some_iff.mp hk).1]; exact hk
      · exact hk
    obtain ⟨o5', o6', g5, g6, h⟩ := ahead_for (c := c) (gl := gl) (S := S) (b := b) (k := k) (p := p) ps (stA p s x) (some (.d (.int (x.2 : Nat)))) (some (.d (dI x.1))) (.inr ⟨_, rfl⟩) (.inr ⟨_, rfl⟩) hk2 (by omega)
    refine ⟨o5', o6', g5, g6, ?_⟩
    rw [List.map_cons, List.foldl_cons]
    unfold sforL
    have hg : gtup 2 (gcons (gset 5) (gcons (gset 6) gnil)) (.tup [.int (x.2 : Nat), dI x.1]) (qA c gl S b k s.1 s.2 o5 o6) = some (qA c gl S b k s.1 s.2 (some (.d (.int (x.2 : Nat)))) (some (.d (dI x.1)))) := by
      rcases h5 with rfl | ⟨d, rfl⟩ <;> rcases h6 with rfl | ⟨d', rfl⟩ <;> rfl
    rw [hg]
    dsimp only
    unfold bnd
    rw [ahead_f1 hk (by omega)]
    have e : (if p ∈ x.1 ∧ (x.2 : Int) ∉ s.1 then qA c gl S b k (s.1 ++ [(x.2 : Int)]) (setF s.2 x.2 (s.2 p + 1)) (some (.d (.int (x.2 : Nat)))) (some (.d (dI x.1))) else qA c gl S b k s.1 s.2 (some (.d (.int (x.2 : Nat)))) (some (.d (dI x.1)))) = qA c gl S b k (stA p s x).1 (stA p s x).2 (some (.d (.int (x.2 : Nat)))) (some (.d (dI x.1))) := by
      unfold stA
      split <;> rfl
    rw [e]
    exact h

structure AJ (c : List (List Int)) (gl : List Int) (s : List Int × (Int → Int)) : Prop where
  nd : s.1.Nodup
  inr : ∀ p ∈ s.1, inn p 0 (c.length - 1) = true
  gs : ∀ g ∈ gl, g ∈ s.1 ∧ s.2 g = 0
  dn : ∀ p ∈ s.1, (s.2 p = 0 ∧ p ∈ gl) ∨ (0 < s.2 p ∧ ∃ q ∈ nx c p, q ∈ s.1 ∧ s.2 q = s.2 p - 1)
  up : ∀ p ∈ s.1, s.2 p < s.1.length
theorem AJ.nonneg {c : List (List Int)} {gl : List Int} {s : List Int × (Int → Int)} (h : AJ c gl s) {p : Int} (hp : p ∈ s.1) : 0 ≤ s.2 p := by
  rcases h.dn p hp with z | z <;> omega
theorem stA_inv {c : List (List Int)} {gl : List Int} {p : Int} {s : List Int × (Int → Int)} {x : List Int × Nat} (hx : nx c x.2 = x.1 ∧ x.2 < c.length) (hp : p ∈ s.1) (J : AJ c gl s) :
    AJ c gl (stA p s x) ∧ s.1 <+: (stA p s x).1 ∧ (∀ q ∈ s.1, (stA p s x).2 q = s.2 q) ∧ (p ∈ x.1 → (x.2 : Int) ∈ (stA p s x).1) := by
  unfold stA
  by_cases h : p ∈ x.1 ∧ (x.2 : Int) ∉ s.1
  · rw [if_pos h]
    have old : ∀ q ∈ s.1, setF s.2 x.2 (s.2 p + 1) q = s.2 q := fun q hq => by
      unfold setF
      refine if_neg fun e => h.2 ?_
      rw [← e]; exact hq
    have new : setF s.2 x.2 (s.2 p + 1) x.2 = s.2 p + 1 := by unfold setF; rw [if_pos rfl]
    refine ⟨⟨List.nodup_append.mpr ⟨J.nd, by simp, fun a ha b hb e => h.2 (by rw [← List.mem_singleton.mp hb, ← e]; exact ha)⟩, fun q hq => ?_, fun g hg => ⟨List.mem_append_left _ (J.gs g hg).1, (old g (J.gs g hg).1).trans (J.gs g hg).2⟩, fun q hq => ?_, fun q hq => ?_⟩, List.prefix_append _ _, old, fun _ => by simp⟩
    · rcases List.mem_append.mp hq with z | z
      · exact J.inr q z
      · rw [List.mem_singleton.mp z]; exact inn_iff.mpr ⟨by omega, by have := hx.2; omega⟩
    · rcases List.mem_append.mp hq with z | z
      · rw [show (s.1 ++ [(x.2 : Int)], setF s.2 x.2 (s.2 p + 1)).2 q = s.2 q from old q z]
        rcases J.dn q z with y | ⟨y1, r, y2, y3, y4⟩
        · exact .inl y
        · exact .inr ⟨y1, r, y2, List.mem_append_left _ y3, by rw [show (s.1 ++ [(x.2 : Int)], setF s.2 x.2 (s.2 p + 1)).2 r = s.2 r from old r y3]; exact y4⟩
      · have e := List.mem_singleton.mp z
        subst e
        have hn := J.nonneg hp
        refine .inr ⟨by show 0 < setF s.2 x.2 (s.2 p + 1) x.2; rw [new]; omega, p, by rw [hx.1]; exact h.1, List.mem_append_left _ hp, ?_⟩
        show setF s.2 x.2 (s.2 p + 1) p = setF s.2 x.2 (s.2 p + 1) x.2 - 1
        rw [old p hp, new]; omega
    · show setF s.2 x.2 (s.2 p + 1) q < ((s.1 ++ [(x.2 : Int)]).length : Nat)
      rw [List.length_append, List.length_singleton]
      rcases List.mem_append.mp hq with z | z
      · rw [old q z]; have := J.up q z; omega
      · rw [List.mem_singleton.mp z, new]; have := J.up p hp; omega
  · rw [if_neg h]
    refine ⟨J, List.prefix_refl _, fun _ _ => rfl, fun hpx => ?_⟩
    by_cases hm : (x.2 : Int) ∈ s.1
    · exact hm
    · exact absurd ⟨hpx, hm⟩ h
theorem fold_inv {c : List (List Int)} {gl : List Int} {p : Int} : ∀ (ps : List (List Int × Nat)) (s : List Int × (Int → Int)), (∀ x ∈ ps, nx c x.2 = x.1 ∧ x.2 < c.length) → p ∈ s.1 → AJ c gl s →
    AJ c gl (ps.foldl (stA p) s) ∧ s.1 <+: (ps.foldl (stA p) s).1 ∧ (∀ q ∈ s.1, (ps.foldl (stA p) s).2 q = s.2 q) ∧ ∀ x ∈ ps, p ∈ x.1 → (x.2 : Int) ∈ (ps.foldl (stA p) s).1
  | [], s, _, _, J => ⟨J, List.prefix_refl _, fun _ _ => rfl, fun x hx => absurd hx (by simp)⟩
  | x :: ps, s, h, hp, J => by
    obtain ⟨J1, p1, o1, m1⟩ := stA_inv (h x (by simp)) hp J
    obtain ⟨J2, p2, o2, m2⟩ := fold_inv ps (stA p s x) (fun y hy => h y (List.mem_cons_of_mem _ hy)) (p1.subset hp) J1
    rw [List.foldl_cons]
    refine ⟨J2, p1.trans p2, fun q hq => (o2 q (p1.subset hq)).trans (o1 q hq), fun y hy hpy => ?_⟩
    rcases List.mem_cons.mp hy with e | e
    · rw [e]; exact p2.subset (m1 (e ▸ hpy))
    · exact m2 y e hpy

theorem enum_dC {c : List (List Int)} : ((c.map dI).zipIdx.map fun p => Fy.D.tup [.int (p.2 : Nat), p.1]) = c.zipIdx.map fun x : List Int × Nat => Fy.D.tup [.int (x.2 : Nat), dI x.1] := by
  rw [List.zipIdx_map, List.map_map]
  rfl
theorem ahead_w2 {c : List (List Int)} {gl : List Int} {s : List Int × (Int → Int)} {S : List I8} {b : Bool} {k : Nat} {o5 o6 : Option T} {p : Int} (h : Sm c) (hk : s.1[k]? = some p) (h5 : dat o5) (h6 : dat o6) (hl : s.1.length ≤ 500) :
    ∃ o5' o6', dat o5' ∧ dat o6' ∧ w2_ahead_of (qA c gl S b k s.1 s.2 o5 o6) = .ok .nx (qA c gl S b (k + 1 : Nat) (c.zipIdx.foldl (stA p) s).1 (c.zipIdx.foldl (stA p) s).2 o5' o6') := by
  have := h.l
  obtain ⟨o5', o6', g5, g6, hf⟩ := ahead_for (c := c) (gl := gl) (S := S) (b := b) (k := k) (p := p) c.zipIdx s o5 o6 h5 h6 hk (by rw [List.length_zipIdx]; omega)
  refine ⟨o5', o6', g5, g6, ?_⟩
  unfold w2_ahead_of
  rw [x_sseq, x_sfor]
  have hs : ienum (mvar 0) (qA c gl S b k s.1 s.2 o5 o6) = .ok (c.zipIdx.map fun x : List Int × Nat => Fy.D.tup [.int (x.2 : Nat), dI x.1]) (qA c gl S b k s.1 s.2 o5 o6) := by
    rw [x_ienum]
    show mop (Option.map _ (itemsD (dC c))) _ = _
    rw [it_dC]
    simp only [Option.map_some, enum_dC, x_some]
  rw [hs]
  dsimp only
  rw [hf]
  simp [x_bnd, x_mret, x_some, x_none, x_mvar, x_mvw, x_mbin, x_mtb, x_tand, x_tor, x_tnot, x_vand, x_vor, x_vnot, x_vif, x_chain, x_m1, x_mN, x_mnil, x_mcons, x_mtup, x_mlst, x_tmlst, x_mcall, x_tcall, x_fz, x_mD, x_get2, x_msl1, x_msl2, x_sseq, x_snext, x_sdrop, x_sset, x_sret, x_sretN, x_sretT, x_sretO, x_sif, x_sraise, x_sasg, x_spar, x_ssetT, x_saug, x_gset, x_gnil, x_gcons, x_gtup, x_gtupL, x_gstar, x_isrc, x_ienum, x_izip, x_irange1, x_run, x_mcomp, x_mlc2, x_mlc, x_sfor]
structure AI (c : List (List Int)) (gl : List Int) (s : List Int × (Int → Int)) (k : Nat) : Prop where
  j : AJ c gl s
  le : k ≤ s.1.length
  cl : ∀ (i : Nat) (p : Int), i < k → s.1[i]? = some p → ∀ y, inn y 0 (c.length - 1) = true → p ∈ nx c y → y ∈ s.1
theorem zip_nx {c : List (List Int)} {x : List Int × Nat} (hx : x ∈ c.zipIdx) : nx c x.2 = x.1 ∧ x.2 < c.length := by
  have h := List.mem_zipIdx hx
  have hlt : x.2 < c.length := by omega
  refine ⟨?_, hlt⟩
  unfold nx
  rw [Int.toNat_natCast, List.getD_eq_getElem?_getD, List.getElem?_eq_getElem hlt]
  have := h.2.2
  simp at this
  simp [this]
theorem ahead_while {c : List (List Int)} {gl : List Int} (h : Sm c) : ∀ (n k : Nat) (s : List Int × (Int → Int)), AI c gl s k → c.length - k ≤ n →
    ∃ s', AI c gl s' s'.1.length ∧ ∀ (S : List I8) (b : Bool) (o5 o6 : Option T), dat o5 → dat o6 → ∃ o5' o6', swhileN condC w2_ahead_of (n + 1) (qA c gl S b k s.1 s.2 o5 o6) = .ok .nx (qA c gl S b s'.1.length s'.1 s'.2 o5' o6')
  | n, k, s, I, hn => by
    have hlen : s.1.length ≤ c.length := nodup_bound c.length I.j.nd fun x hx => inn_iff.mp (I.j.inr x hx)
    have hcl := h.l
    have hcond : ∀ S b o5 o6, condC (qA c gl S b k s.1 s.2 o5 o6) = .ok (decide (k < s.1.length)) (qA c gl S b k s.1 s.2 o5 o6) := by
      intro S b o5 o6
      unfold condC
      simp [x_bnd, x_mret, x_some, x_none, x_mvar, x_mvw, x_mbin, x_mtb, x_tand, x_tor, x_tnot, x_vand, x_vor, x_vnot, x_vif, x_chain, x_m1, x_mN, x_mnil, x_mcons, x_mtup, x_mlst, x_tmlst, x_mcall, x_tcall, x_fz, x_mD, x_get2, x_msl1, x_msl2, x_sseq, x_snext, x_sdrop, x_sset, x_sret, x_sretN, x_sretT, x_sretO, x_sif, x_sraise, x_sasg, x_spar, x_ssetT, x_saug, x_gset, x_gnil, x_gcons, x_gtup, x_gtupL, x_gstar, x_isrc, x_ienum, x_izip, x_irange1, x_run, x_mcomp, x_mlc2, x_mlc, x_sfor, seen, seenT, gLen, gLt]
    by_cases hk : k < s.1.length
    · have ek : s.1[k]? = some s.1[k] := List.getElem?_eq_getElem hk
      have hm := List.getElem_mem hk
      obtain ⟨J2, pre, old, mem⟩ := fold_inv (p := s.1[k]) c.zipIdx s (fun x hx => zip_nx hx) hm I.j
      have I2 : AI c gl (c.zipIdx.foldl (stA s.1[k]) s) (k + 1) := by
        refine ⟨J2, by have := pre.length_le; omega, fun i p hi hp y hy hpy => ?_⟩
        have hi2 : i < s.1.length := by omega
        have e2 : (c.zipIdx.foldl (stA s.1[k]) s).1[i]? = s.1[i]? := by
          obtain ⟨t, et⟩ := pre
          rw [← et, List.getElem?_append_left hi2]
        rw [e2] at hp
        by_cases hik : i < k
        · exact pre.subset (I.cl i p hik hp y hy hpy)
        · have : i = k := by omega
          subst this
          rw [ek] at hp
          cases hp
          have hy2 := inn_iff.mp hy
          have hlt : y.toNat < c.length := by omega
          have hz : (c[y.toNat], y.toNat) ∈ c.zipIdx := by
            rw [List.mem_zipIdx_iff_getElem?]
            simp [hlt]
          have e3 : nx c y = c[y.toNat] := by
            unfold nx
            rw [List.getD_eq_getElem?_getD, List.getElem?_eq_getElem hlt]; rfl
          have := mem _ hz (by rw [← e3]; exact hpy)
          simpa [Int.toNat_of_nonneg hy2.1] using this
      cases n with
      | zero => omega
      | succ n =>
        obtain ⟨s', g3, g⟩ := ahead_while h n (k + 1) _ I2 (by omega)
        refine ⟨s', g3, fun S b o5 o6 h5 h6 => ?_⟩
        obtain ⟨a5, a6, g5, g6, h2⟩ := ahead_w2 (c := c) (gl := gl) (S := S) (b := b) h ek h5 h6 (by omega)
        obtain ⟨o5', o6', g2⟩ := g S b a5 a6 g5 g6
        refine ⟨o5', o6', ?_⟩
        rw [swhileN]
        unfold bnd
        rw [hcond]
        dsimp only
        rw [decide_eq_true hk]
        simp only [if_true]
        rw [h2]
        exact g2
    · have : k = s.1.length := by have := I.le; omega
      subst this
      refine ⟨s, I, fun S b o5 o6 h5 h6 => ⟨o5, o6, ?_⟩⟩
      unfold swhileN bnd
      rw [hcond]
      dsimp only
      rw [decide_eq_false hk]
      simp only [Bool.false_eq_true, if_false]
      rfl

theorem tmlist_at {st : List Int} {i : Nat} : ∀ q : Q8, q.r[i]? = some (some (.d (dI st))) → tmlist (mvar i) q = .ok (.fl (st.map .int)) q := by
  intro q hq
  unfold tmlist bnd
  rw [x_mvar, hq]
  rfl
theorem e_ahead_of {c : List (List Int)} {gl : List Int} (h : Sm c) (hg : points c.length gl = true) :
    ∃ R : List Int × (Int → Int), (∀ S b, F_ahead_of [dC c, dI gl] S b = .ok (.fd false (R.1.map .int) (R.1.map fun p => .int (R.2 p))) S) ∧ AI c gl R R.1.length := by
  have hnd := points_nd hg
  have hin := (points_iff.mp hg).1
  have I0 : AI c gl (gl, fun _ => 0) 0 := ⟨⟨hnd, hin, fun g hg => ⟨hg, rfl⟩, fun p hp => .inl ⟨rfl, hp⟩, fun p hp => by have := List.length_pos_of_mem hp; show (0 : Int) < _; omega⟩, by omega, fun i p hi => by omega⟩
  have hlen : gl.length ≤ c.length := nodup_bound c.length hnd fun x hx => inn_iff.mp (hin x hx)
  have hcl := h.l
  obtain ⟨R, I, hw0⟩ := ahead_while h c.length 0 (gl, fun _ => 0) I0 (by omega)
  refine ⟨R, fun S b => ?_, I⟩
  obtain ⟨o5', o6', hw⟩ := hw0 S b none none (.inl rfl) (.inl rfl)
  have hd := tnD_ints (g := gset 7) (t := tyes) (mk := mvar 7) (mv := mret (.int 0)) (vs := [7]) (q0 := ⟨[some (.d (dC c)), some (.d (dI gl)), none, none, none, none, none, none], S, b⟩) (fun _ => .int 0) gl [] (fun x hx => ⟨_, rfl, rfl, by simp [x_bnd, x_mret, x_some, x_none, x_mvar, x_mvw, x_mbin, x_mtb, x_tand, x_tor, x_tnot, x_vand, x_vor, x_vnot, x_vif, x_chain, x_m1, x_mN, x_mnil, x_mcons, x_mtup, x_mlst, x_tmlst, x_mcall, x_tcall, x_fz, x_mD, x_get2, x_msl1, x_msl2, x_sseq, x_snext, x_sdrop, x_sset, x_sret, x_sretN, x_sretT, x_sretO, x_sif, x_sraise, x_sasg, x_spar, x_ssetT, x_saug, x_gset, x_gnil, x_gcons, x_gtup, x_gtupL, x_gstar, x_isrc, x_ienum, x_izip, x_irange1, x_run, x_mcomp, x_mlc2, x_mlc, x_sfor], rfl, rfl, rfl, rfl, rfl⟩) (by simpa using hnd) (szn (by simp; omega))
  simp only [List.nil_append, List.map_nil] at hd
  have hwh : swhile (mtb (mbin gLt (mvar 4) (m1 gLen (mvw 3)))) w2_ahead_of (qA c gl S b (0 : Nat) gl (fun _ => 0) none none) = .ok .nx (qA c gl S b R.1.length R.1 R.2 o5' o6') := swhile_of hw (by simp)
  have hwh2 : swhile (mtb (mbin gLt (mvar 4) (m1 gLen (mvw 3)))) w2_ahead_of (qA c gl S b 0 gl (fun _ => 0) none none) = .ok .nx (qA c gl S b R.1.length R.1 R.2 o5' o6') := hwh
  have hml : ∀ q : Q8, q.r[1]? = some (some (.d (dI gl))) → tmlist (mvar 1) q = .ok (.fl (gl.map .int)) q := fun q h => tmlist_at q h
  unfold F_ahead_of m_ahead_of
  unfold tmdc
  simp [x_bnd, x_mret, x_some, x_none, x_mvar, x_mvw, x_mbin, x_mtb, x_tand, x_tor, x_tnot, x_vand, x_vor, x_vnot, x_vif, x_chain, x_m1, x_mN, x_mnil, x_mcons, x_mtup, x_mlst, x_tmlst, x_mcall, x_tcall, x_fz, x_mD, x_get2, x_msl1, x_msl2, x_sseq, x_snext, x_sdrop, x_sset, x_sret, x_sretN, x_sretT, x_sretO, x_sif, x_sraise, x_sasg, x_spar, x_ssetT, x_saug, x_gset, x_gnil, x_gcons, x_gtup, x_gtupL, x_gstar, x_isrc, x_ienum, x_izip, x_irange1, x_run, x_mcomp, x_mlc2, x_mlc, x_sfor, slots0, it_dI, okW, datS, wipeR, hd, hml, hwh2]

/-! ### way_by -/
theorem pairsD_map : ∀ ps : List (Int × Int), pairsD (ps.map dPair) = some ps
  | [] => rfl
  | p :: ps => by
    rw [List.map_cons]
    show (match pairsD (ps.map dPair) with | some qs => some ((p.1, p.2) :: qs) | none => none) = _
    rw [pairsD_map ps]
theorem min_pairs {S : List I8} {p : Int × Int} {ps : List (Int × Int)} : gMin S (.lst ((p :: ps).map dPair)) = some (dPair (minP p ps)) := by
  unfold gMin
  have e1 : intsD ((p :: ps).map dPair) = none := rfl
  dsimp only
  rw [e1, pairsD_map]
theorem ints_some : ∀ xs : List Int, intsD (xs.map .int) = some xs
  | [] => rfl
  | x :: xs => by simp [intsD, ints_some xs]
theorem min_ints {S : List I8} {n : Int} {ns : List Int} : gMin S (.lst ((n :: ns).map .int)) = some (.int (ns.foldl min n)) := by
  unfold gMin
  dsimp only
  rw [ints_some]
abbrev dF (s : List Int × (Int → Int)) : Fy.D := .dic false (s.1.map .int) (s.1.map fun p => .int (s.2 p))
theorem in_dF {S : List I8} {s : List Int × (Int → Int)} {y : Int} : gIn G S (.int y) (dF s) = some (.bl (decide (y ∈ s.1))) := by
  by_cases h : y ∈ s.1 <;> simp [gIn, dIn, dGet, keyK, look_ints, h]
theorem ix_dF {S : List I8} {s : List Int × (Int → Int)} {y : Int} (h : y ∈ s.1) : gIx G S (dF s) (.int y) = some (.int (s.2 y)) := by
  simp [gIx, dGet, keyK, look_ints, h]
theorem get_dF {s : List Int × (Int → Int)} {y z : Int} : gGet2 G (dF s) (.int y) (.int z) = some (.int (if y ∈ s.1 then s.2 y else z)) := by
  by_cases h : y ∈ s.1 <;> simp [gGet2, dGet, keyK, look_ints, h]
theorem canLay_pairs : ∀ ps : List (Int × Int), PyData.canLayAll0 (pys (ps.map dPair)) = true
  | [] => rfl
  | p :: ps => by simp only [List.map_cons, pys, PyData.canLayAll0, dPair, py, PyData.canLay0, canLay_pairs ps]; rfl
theorem depth_pairsD : ∀ ps : List (Int × Int), PyData.depthAll (pys (ps.map dPair)) ≤ 2
  | [] => by simp [pys, PyData.depthAll]
  | p :: ps => by
    have := depth_pairsD ps
    simp only [List.map_cons, pys, PyData.depthAll, dPair, py, PyData.depth]
    omega
theorem eq_nilP {S : List I8} (ps : List (Int × Int)) : gEq S (.lst (ps.map dPair)) (.lst []) = some (.bl ps.isEmpty) := by
  have h1 : SeqAt.shaped (py (.lst (ps.map dPair))) = true := by
    unfold SeqAt.shaped
    have := depth_pairsD ps
    simp only [py, PyData.canLay0, PyData.depth, canLay_pairs, Bool.true_and, decide_eq_true_eq]
    omega
  have h2 : SeqAt.shaped (py (.lst [])) = true := rfl
  unfold gEq
  show ((if SeqAt.shaped (py (.lst (ps.map dPair))) && SeqAt.shaped (py (.lst [])) then some (PyData.eqv (py (.lst (ps.map dPair))) (py (.lst []))) else none).map Fy.D.bl) = _
  rw [h1, h2]
  cases ps with
  | nil => rfl
  | cons p ps => rfl

/-- a way's step: from here to a next that is one nearer -/
abbrev qW (c : List (List Int)) (st gl : List Int) (s : List Int × (Int → Int)) (S : List I8) (b : Bool) (d4 : Fy.D) (m here : Int) (way : List Int) : Q8 := ⟨[some (.d (dC c)), some (.d (dI st)), some (.d (dI gl)), some (.d (dF s)), some (.d d4), some (.d (.int m)), some (.d (.int here)), some (.fl (way.map .int)), none, none], S, b⟩
theorem way_w1 {c : List (List Int)} {gl : List Int} {s : List Int × (Int → Int)} {m here : Int} (h : Sm c) (hc : chartOk c = true) (J : AJ c gl s) (hh : here ∈ s.1) (hm : s.2 here = m) (hm0 : 0 < m) :
    ∃ y, y ∈ nx c here ∧ y ∈ s.1 ∧ s.2 y = m - 1 ∧ ∀ (st : List Int) (S : List I8) (b : Bool) (d4 : Fy.D) (way : List Int), way.length ≤ 500 → w1_way_by (qW c st gl s S b d4 m here way) = .ok .nx (qW c st gl s S b d4 (m - 1) y (way ++ [y])) := by
  have hin := J.inr here hh
  have hn : (nx c here).length ≤ 100 := h.a _ (nx_mem hin)
  -- the nexts that are one nearer
  let P : Int → Bool := fun y => decide ((if y ∈ s.1 then s.2 y else -1) = m - 1)
  have h10 := fun (st : List Int) (S : List I8) (b : Bool) (d4 : Fy.D) (way : List Int) => tn_map (g := gset 9) (t := mtb (mbin gEq (mget2' G (mvar 3) (mvar 9) (m1 gNeg (mret (.int 1)))) (mvar 5))) (e := mvar 9) (vs := [9]) (q0 := ⟨[some (.d (dC c)), some (.d (dI st)), some (.d (dI gl)), some (.d (dF s)), some (.d d4), some (.d (.int (m - 1))), some (.d (.int here)), some (.fl (way.map .int)), none, none], S, b⟩)
    .int P Fy.D.int (nx c here) [] (fun y hy => by
      refine ⟨_, rfl, ?_, fun _ => rfl, rfl, rfl, rfl, rfl⟩
      have hg := get_dF (s := s) (y := y) (z := -1)
      simp [x_bnd, x_mret, x_some, x_none, x_mvar, x_mvw, x_mbin, x_mtb, x_tand, x_tor, x_tnot, x_vand, x_vor, x_vnot, x_vif, x_chain, x_m1, x_mN, x_mnil, x_mcons, x_mtup, x_mlst, x_tmlst, x_mcall, x_tcall, x_fz, x_mD, x_get2, x_msl1, x_msl2, x_sseq, x_snext, x_sdrop, x_sset, x_sret, x_sretN, x_sretT, x_sretO, x_sif, x_sraise, x_sasg, x_spar, x_ssetT, x_saug, x_gset, x_gnil, x_gcons, x_gtup, x_gtupL, x_gstar, x_isrc, x_ienum, x_izip, x_irange1, x_run, x_mcomp, x_mlc2, x_mlc, x_sfor, isDic, gNeg, hg, gEq, dEq, P]) (szn (by simp; omega))
  simp only [List.nil_append] at h10
  obtain ⟨y0, q1, q2, q3⟩ : ∃ q ∈ nx c here, q ∈ s.1 ∧ s.2 q = m - 1 := by
    rcases J.dn here hh with z | ⟨_, q, a1, a2, a3⟩
    · omega
    · exact ⟨q, a1, a2, by rw [a3, hm]⟩
  have hy0 : y0 ∈ (nx c here).filter P := List.mem_filter.mpr ⟨q1, by simp [P, q2, q3]⟩
  cases hf : (nx c here).filter P with
  | nil => rw [hf] at hy0; cases hy0
  | cons a as =>
    obtain ⟨m1', _⟩ := foldl_min_mem as a
    have hmem : as.foldl min a ∈ (nx c here).filter P := by rw [hf]; exact m1'
    obtain ⟨r1, r2⟩ := List.mem_filter.mp hmem
    have r3 : (if as.foldl min a ∈ s.1 then s.2 (as.foldl min a) else -1) = m - 1 := by simpa [P] using r2
    have r4 : as.foldl min a ∈ s.1 := by
      by_cases hx : as.foldl min a ∈ s.1
      · exact hx
      · rw [if_neg hx] at r3; omega
    rw [if_pos r4] at r3
    refine ⟨as.foldl min a, r1, r4, r3, fun st S b d4 way hl => ?_⟩
    have hz : way.length < sizeLine := by rw [sizeLine_eq]; omega
    have h1 := h10 st S b d4 way
    rw [hf] at h1
    have hmin := min_ints (S := S) (n := a) (ns := as)
    unfold w1_way_by
    rw [List.map_cons] at hmin
    simp [x_bnd, x_mret, x_some, x_none, x_mvar, x_mvw, x_mbin, x_mtb, x_tand, x_tor, x_tnot, x_vand, x_vor, x_vnot, x_vif, x_chain, x_m1, x_mN, x_mnil, x_mcons, x_mtup, x_mlst, x_tmlst, x_mcall, x_tcall, x_fz, x_mD, x_get2, x_msl1, x_msl2, x_sseq, x_snext, x_sdrop, x_sset, x_sret, x_sretN, x_sretT, x_sretO, x_sif, x_sraise, x_sasg, x_spar, x_ssetT, x_saug, x_gset, x_gnil, x_gcons, x_gtup, x_gtupL, x_gstar, x_isrc, x_ienum, x_izip, x_irange1, x_run, x_mcomp, x_mlc2, x_mlc, x_sfor, ix_dC hin, it_dI, okW, datS, wipeR, h1, hmin, sapp, own, upd8, hz]

/-- a chain in the chart, from its first point -/
inductive Chn (c : List (List Int)) : Int → List Int → Int → Prop
  | one (x : Int) : Chn c x [x] x
  | cons {x y z : Int} {w : List Int} : y ∈ nx c x → Chn c y w z → Chn c x (x :: w) z
theorem way_while {c : List (List Int)} {gl : List Int} {s : List Int × (Int → Int)} (h : Sm c) (hc : chartOk c = true) (J : AJ c gl s) : ∀ (n : Nat) (m here : Int), here ∈ s.1 → s.2 here = m → m = (n : Int) →
    ∃ (y : Int) (w : List Int), Chn c here (here :: w) y ∧ y ∈ gl ∧ w.length = n ∧ (∀ x ∈ here :: w, x ∈ s.1) ∧ ∀ (st : List Int) (S : List I8) (b : Bool) (d4 : Fy.D) (way : List Int), way.length + n ≤ 300 → swhileN (mtb (mbin gGt (mvar 5) (mret (.int 0)))) w1_way_by (n + 1) (qW c st gl s S b d4 m here way) = .ok .nx (qW c st gl s S b d4 0 y (way ++ w))
  | 0, m, here, hh, hm, e => by
    subst e
    have hg : here ∈ gl := by
      rcases J.dn here hh with z | z
      · exact z.2
      · omega
    refine ⟨here, [], .one here, hg, rfl, fun x hx => by rw [List.mem_singleton.mp hx]; exact hh, fun st S b d4 way hl => ?_⟩
    unfold swhileN
    simp [x_bnd, x_mret, x_some, x_none, x_mvar, x_mvw, x_mbin, x_mtb, x_tand, x_tor, x_tnot, x_vand, x_vor, x_vnot, x_vif, x_chain, x_m1, x_mN, x_mnil, x_mcons, x_mtup, x_mlst, x_tmlst, x_mcall, x_tcall, x_fz, x_mD, x_get2, x_msl1, x_msl2, x_sseq, x_snext, x_sdrop, x_sset, x_sret, x_sretN, x_sretT, x_sretO, x_sif, x_sraise, x_sasg, x_spar, x_ssetT, x_saug, x_gset, x_gnil, x_gcons, x_gtup, x_gtupL, x_gstar, x_isrc, x_ienum, x_izip, x_irange1, x_run, x_mcomp, x_mlc2, x_mlc, x_sfor, gGt]
  | n + 1, m, here, hh, hm, e => by
    obtain ⟨y, a1, a2, a3, a40⟩ := way_w1 h hc J hh hm (by omega)
    obtain ⟨z, w, g1, g2, g3, g4, g50⟩ := way_while h hc J n (m - 1) y a2 a3 (by omega)
    refine ⟨z, y :: w, .cons a1 g1, g2, by rw [List.length_cons, g3], fun x hx => ?_, fun st S b d4 way hl => ?_⟩
    · rcases List.mem_cons.mp hx with q | q
      · rw [q]; exact hh
      · exact g4 x q
    · have hm0 : (0 : Int) < m := by omega
      have a4 := a40 st S b d4 way (by omega)
      have g5 := g50 st S b d4 (way ++ [y]) (by rw [List.length_append, List.length_singleton]; omega)
      rw [swhileN]
      have hcnd : mtb (mbin gGt (mvar 5) (mret (.int 0))) (qW c st gl s S b d4 m here way) = .ok true (qW c st gl s S b d4 m here way) := by
        simp [x_bnd, x_mret, x_some, x_none, x_mvar, x_mvw, x_mbin, x_mtb, x_tand, x_tor, x_tnot, x_vand, x_vor, x_vnot, x_vif, x_chain, x_m1, x_mN, x_mnil, x_mcons, x_mtup, x_mlst, x_tmlst, x_mcall, x_tcall, x_fz, x_mD, x_get2, x_msl1, x_msl2, x_sseq, x_snext, x_sdrop, x_sset, x_sret, x_sretN, x_sretT, x_sretO, x_sif, x_sraise, x_sasg, x_spar, x_ssetT, x_saug, x_gset, x_gnil, x_gcons, x_gtup, x_gtupL, x_gstar, x_isrc, x_ienum, x_izip, x_irange1, x_run, x_mcomp, x_mlc2, x_mlc, x_sfor, gGt, hm0]
      unfold bnd
      rw [hcnd]
      simp only [if_true]
      rw [a4]
      simp only
      rw [g5, List.append_assoc]
      rfl

theorem e_way_by {c : List (List Int)} {st gl : List Int} (h : Case c st gl) :
    ∃ R : List Int × (Int → Int), AI c gl R R.1.length ∧ (((∀ x ∈ st, x ∉ R.1) ∧ ∀ S b, F_way_by [dC c, dI st, dI gl] S b = .ok (.d .non) S) ∨
      ∃ (x y : Int) (w : List Int), x ∈ st ∧ Chn c x (x :: w) y ∧ y ∈ gl ∧ (∀ z ∈ x :: w, z ∈ R.1) ∧ w.length ≤ 59 ∧ ∀ S b, F_way_by [dC c, dI st, dI gl] S b = .ok (.d (dI (x :: w))) S) := by
  obtain ⟨R, hR, I⟩ := e_ahead_of h.sm h.pg
  refine ⟨R, I, ?_⟩
  have hls := h.ls
  have hcl := h.sm.l
  have h10 := fun (S : List I8) (b : Bool) => tn_map (g := gset 8) (t := mtb (mbin (gIn G) (mvar 8) (mvar 3))) (e := mtup (mcons (mbin (gIx G) (mvar 3) (mvar 8)) (mcons (mvar 8) mnil))) (vs := [8]) (q0 := ⟨[some (.d (dC c)), some (.d (dI st)), some (.d (dI gl)), some (.d (dF R)), none, none, none, none, none, none], S, b⟩)
    .int (fun x => decide (x ∈ R.1)) (fun x => dPair (R.2 x, x)) st [] (fun x hx => by
      refine ⟨_, rfl, ?_, fun hp => ?_, rfl, rfl, rfl, rfl⟩
      · have := in_dF (S := S) (s := R) (y := x)
        simp [x_bnd, x_mret, x_some, x_none, x_mvar, x_mvw, x_mbin, x_mtb, x_tand, x_tor, x_tnot, x_vand, x_vor, x_vnot, x_vif, x_chain, x_m1, x_mN, x_mnil, x_mcons, x_mtup, x_mlst, x_tmlst, x_mcall, x_tcall, x_fz, x_mD, x_get2, x_msl1, x_msl2, x_sseq, x_snext, x_sdrop, x_sset, x_sret, x_sretN, x_sretT, x_sretO, x_sif, x_sraise, x_sasg, x_spar, x_ssetT, x_saug, x_gset, x_gnil, x_gcons, x_gtup, x_gtupL, x_gstar, x_isrc, x_ienum, x_izip, x_irange1, x_run, x_mcomp, x_mlc2, x_mlc, x_sfor, this]
      · have := ix_dF (S := S) (s := R) (y := x) (by simpa using hp)
        simp [x_bnd, x_mret, x_some, x_none, x_mvar, x_mvw, x_mbin, x_mtb, x_tand, x_tor, x_tnot, x_vand, x_vor, x_vnot, x_vif, x_chain, x_m1, x_mN, x_mnil, x_mcons, x_mtup, x_mlst, x_tmlst, x_mcall, x_tcall, x_fz, x_mD, x_get2, x_msl1, x_msl2, x_sseq, x_snext, x_sdrop, x_sset, x_sret, x_sretN, x_sretT, x_sretO, x_sif, x_sraise, x_sasg, x_spar, x_ssetT, x_saug, x_gset, x_gnil, x_gcons, x_gtup, x_gtupL, x_gstar, x_isrc, x_ienum, x_izip, x_irange1, x_run, x_mcomp, x_mlc2, x_mlc, x_sfor, this, szn, dPair]) (szn (by simp; omega))
  simp only [List.nil_append] at h10
  have e1 : ((st.filter fun x => decide (x ∈ R.1)).map fun x => dPair (R.2 x, x)) = ((st.filter fun x => decide (x ∈ R.1)).map fun x => (R.2 x, x)).map dPair := by rw [List.map_map]; rfl
  simp only [e1] at h10
  unfold F_way_by m_way_by
  cases hf : (st.filter fun x => decide (x ∈ R.1)) with
  | nil =>
    rw [hf] at h10
    simp only [List.map_nil] at h10
    refine .inl ⟨fun x hx hm => ?_, fun S b => ?_⟩
    · have : x ∈ st.filter fun x => decide (x ∈ R.1) := List.mem_filter.mpr ⟨hx, by simpa using hm⟩
      rw [hf] at this; cases this
    · have h1 := h10 S b
      have hq := eq_nilP (S := S) []
      simp only [List.map_nil, List.isEmpty_nil] at hq
      simp [x_bnd, x_mret, x_some, x_none, x_mvar, x_mvw, x_mbin, x_mtb, x_tand, x_tor, x_tnot, x_vand, x_vor, x_vnot, x_vif, x_chain, x_m1, x_mN, x_mnil, x_mcons, x_mtup, x_mlst, x_tmlst, x_mcall, x_tcall, x_fz, x_mD, x_get2, x_msl1, x_msl2, x_sseq, x_snext, x_sdrop, x_sset, x_sret, x_sretN, x_sretT, x_sretO, x_sif, x_sraise, x_sasg, x_spar, x_ssetT, x_saug, x_gset, x_gnil, x_gcons, x_gtup, x_gtupL, x_gstar, x_isrc, x_ienum, x_izip, x_irange1, x_run, x_mcomp, x_mlc2, x_mlc, x_sfor, slots0, hR, freeze, it_dI, okW, datS, wipeR, h1, hq, szn]
  | cons a as =>
    rw [hf] at h10
    simp only [List.map_cons] at h10
    have hmp := minP_mem (R.2 a, a) (as.map fun x => (R.2 x, x))
    have hmin0 := fun S => min_pairs (S := S) (p := (R.2 a, a)) (ps := as.map fun x => (R.2 x, x))
    generalize minP (R.2 a, a) (as.map fun x => (R.2 x, x)) = p0 at hmp hmin0
    obtain ⟨x, hx, ep⟩ : ∃ x ∈ a :: as, p0 = (R.2 x, x) := by
      rw [← List.map_cons (f := fun x => (R.2 x, x))] at hmp
      obtain ⟨x, hx, e⟩ := List.mem_map.mp hmp
      exact ⟨x, hx, e.symm⟩
    subst ep
    rw [← hf] at hx
    obtain ⟨hx1, hx2⟩ := List.mem_filter.mp hx
    have hxR : x ∈ R.1 := by simpa using hx2
    have hlen : R.1.length ≤ c.length := nodup_bound c.length I.j.nd fun x hx => inn_iff.mp (I.j.inr x hx)
    have hup := I.j.up x hxR
    have hnn := I.j.nonneg hxR
    obtain ⟨y, w, g1, g2, g3, g4, g50⟩ := way_while h.sm h.ok I.j (R.2 x).toNat (R.2 x) x hxR rfl (by omega)
    refine .inr ⟨x, y, w, hx1, g1, g2, g4, by omega, fun S b => ?_⟩
    have hq := eq_nilP (S := S) ((R.2 a, a) :: as.map fun x => (R.2 x, x))
    have g5 := g50 st S b (.lst (((R.2 a, a) :: as.map fun x => (R.2 x, x)).map dPair)) [x] (by simp; omega)
    have h1 := h10 S b
    have hmin := hmin0 S
    have hw := swhile_of g5 (by simp)
    simp only [List.isEmpty_cons] at hq
    rw [List.map_cons] at hq hmin hw
    have hd : ∀ z : Int, dPair (R.2 z, z) = .tup [.int (R.2 z), .int z] := fun _ => rfl
    simp only [List.map_map] at h1 hq hmin hw
    have hgt : ∀ xs : List Int, gTuple S (.lst (xs.map .int)) = some (dI xs) := fun _ => rfl
    have hgt2 : gTuple S (.lst (.int x :: w.map .int)) = some (dI (x :: w)) := rfl
    rw [hd x] at hmin
    simp only [qW, List.map_cons, List.map_nil] at hw
    simp [x_bnd, x_mret, x_some, x_none, x_mvar, x_mvw, x_mbin, x_mtb, x_tand, x_tor, x_tnot, x_vand, x_vor, x_vnot, x_vif, x_chain, x_m1, x_mN, x_mnil, x_mcons, x_mtup, x_mlst, x_tmlst, x_mcall, x_tcall, x_fz, x_mD, x_get2, x_msl1, x_msl2, x_sseq, x_snext, x_sdrop, x_sset, x_sret, x_sretN, x_sretT, x_sretO, x_sif, x_sraise, x_sasg, x_spar, x_ssetT, x_saug, x_gset, x_gnil, x_gcons, x_gtup, x_gtupL, x_gstar, x_isrc, x_ienum, x_izip, x_irange1, x_run, x_mcomp, x_mlc2, x_mlc, x_sfor, slots0, hR, freeze, it_dI, okW, datS, wipeR, h1, hq, szn, hmin, hw, seen, seenT, hgt2]

/-! ### the graph -/
theorem bar_chain {c : List (List Int)} {st gl B : List Int} (h : isBar c st gl B = true) : ∀ {x y : Int} {w : List Int}, Chn c x w y → x ∈ B → y ∈ B
  | _, _, _, .one _, hx => hx
  | x, z, _, .cons (y := y) hy r, hx => by
    have h' := h
    unfold isBar at h'
    simp only [Bool.and_eq_true] at h'
    have := List.all_eq_true.mp h'.2 y (List.mem_flatMap.mpr ⟨x, hx, hy⟩)
    exact bar_chain h r (by simpa using this)
theorem no_bar {c : List (List Int)} {st gl B : List Int} {x y : Int} {w : List Int} (hx : x ∈ st) (hw : Chn c x w y) (hy : y ∈ gl) : isBar c st gl B = false := by
  cases h : isBar c st gl B with
  | false => rfl
  | true =>
    have h' := h
    unfold isBar at h'
    simp only [Bool.and_eq_true, Bool.not_eq_true'] at h'
    have h1 := List.all_eq_true.mp h'.1.1.2 x hx
    have h2 := bar_chain h hw (by simpa using h1)
    have h3 := h'.1.2
    rw [List.any_eq_false] at h3
    exact absurd (by simpa using h2) (h3 y hy)
theorem chn_spec {c : List (List Int)} {x y : Int} {w : List Int} (h : Chn c x w y) : ∃ t, w = x :: t ∧ (x :: t).getLastD 0 = y ∧ steps c (x :: t) = true := by
  induction h with
  | one x => exact ⟨[], rfl, rfl, rfl⟩
  | cons hy r ih =>
    rename_i x y z w
    obtain ⟨t, e, h1, h2⟩ := ih
    subst e
    refine ⟨y :: t, rfl, by simpa using h1, ?_⟩
    unfold steps at h2 ⊢
    simp only [List.tail_cons, List.zip_cons_cons, List.all_cons, Bool.and_eq_true, decide_eq_true_eq] at h2 ⊢
    exact ⟨hy, h2⟩
theorem way_is {c : List (List Int)} {st gl : List Int} {x y : Int} {w : List Int} (hx : x ∈ st) (hw : Chn c x (x :: w) y) (hy : y ∈ gl) (hr : ∀ z ∈ x :: w, inn z 0 (c.length - 1) = true) : isWay c st gl (x :: w) = true := by
  obtain ⟨t, e, h1, h2⟩ := chn_spec hw
  cases e
  unfold isWay rowOf
  rw [h1, h2]
  simp only [List.isEmpty_cons, Bool.not_false, Bool.true_and, List.headD_cons, Bool.and_eq_true, decide_eq_true_eq, Bool.and_true]
  exact ⟨List.all_eq_true.mpr hr, decide_eq_true hx, hy⟩
/-- where there is no way -/
theorem no_reach {c : List (List Int)} {st gl : List Int} {R : List Int × (Int → Int)} (I : AI c gl R R.1.length) (hc : chartOk c = true) (hs : points c.length st = true) (hn : ∀ x ∈ st, x ∉ R.1) : ∀ {p : Int}, Rch c st p → inn p 0 (c.length - 1) = true ∧ p ∉ R.1 := by
  intro p h
  induction h with
  | base hx => exact ⟨(points_iff.mp hs).1 _ hx, hn _ hx⟩
  | step r hy ih =>
    rename_i x y
    refine ⟨nx_in hc ih.1 hy, fun hm => ih.2 ?_⟩
    obtain ⟨i, hi, e⟩ := List.getElem_of_mem hm
    exact I.cl i y hi (by rw [← e]; exact List.getElem?_eq_getElem hi) x ih.1 hy

theorem rising_of : ∀ {ns : List Int}, ns.Pairwise (· < ·) → rising ns = true
  | [], _ => rfl
  | [x], _ => rfl
  | x :: y :: ns, h => by
    have h1 := List.pairwise_cons.mp h
    have ih := rising_of h1.2
    unfold rising at ih ⊢
    simp only [List.tail_cons, List.zip_cons_cons, List.all_cons, Bool.and_eq_true, decide_eq_true_eq] at ih ⊢
    exact ⟨h1.1 y (by simp), ih⟩
theorem srt_mem {R : List Int} {z : Int} : z ∈ srt R ↔ z ∈ R := (srt_perm R).mem_iff
theorem srt_rising {R : List Int} (h : R.Nodup) : rising (srt R) = true := by
  refine rising_of ?_
  have nd : (srt R).Nodup := (srt_perm R).nodup_iff.mpr h
  have hle := srt_le R
  exact (List.Pairwise.and hle nd).imp fun ⟨h1, h2⟩ => by omega
theorem bar_is {c : List (List Int)} {st gl R2 : List Int} {R : List Int × (Int → Int)} (I : AI c gl R R.1.length) (hc : chartOk c = true) (hs : points c.length st = true) (hn : ∀ x ∈ st, x ∉ R.1) (C : CI c st R2 R2.length) : isBar c st gl (srt R2) = true := by
  unfold isBar
  simp only [Bool.and_eq_true, Bool.not_eq_true', points_iff]
  refine ⟨⟨⟨⟨fun x hx => C.inr x (srt_mem.mp hx), srt_rising C.nd⟩, List.all_eq_true.mpr fun x hx => decide_eq_true (srt_mem.mpr (C.st x hx))⟩, ?_⟩, List.all_eq_true.mpr fun y hy => ?_⟩
  · rw [List.any_eq_false]
    intro g hg hm
    have hm := srt_mem.mp (of_decide_eq_true hm)
    exact (no_reach I hc hs hn (C.rc g hm)).2 (I.j.gs g hg).1
  · obtain ⟨x, hx, hyx⟩ := List.mem_flatMap.mp hy
    obtain ⟨i, hi, e⟩ := List.getElem_of_mem (srt_mem.mp hx)
    exact decide_eq_true (srt_mem.mpr (C.cl i x hi (by rw [← e]; exact List.getElem?_eq_getElem hi) y hyx))
theorem bar_no_way {c : List (List Int)} {st gl B : List Int} (h : isBar c st gl B = true) : isWay c st gl B = false := by
  cases hw : isWay c st gl B with
  | false => rfl
  | true =>
    unfold isWay at hw
    simp only [Bool.and_eq_true, decide_eq_true_eq] at hw
    unfold isBar at h
    simp only [Bool.and_eq_true, Bool.not_eq_true'] at h
    have h3 := h.1.2
    rw [List.any_eq_false] at h3
    cases B with
    | nil => simp [rowOf] at hw
    | cons b B =>
      refine absurd (decide_eq_true ?_) (h3 _ hw.2.2)
      rw [List.getLastD_eq_getLast?, List.getLast?_eq_some_getLast (List.cons_ne_nil _ _)]
      exact List.getLast_mem _
theorem one_no_way {c : List (List Int)} {st gl : List Int} {R : List Int × (Int → Int)} (I : AI c gl R R.1.length) (hn : ∀ x ∈ st, x ∉ R.1) (g : Int) (hg : g ∈ gl) : isWay c st gl [g] = false := by
  cases hw : isWay c st gl [g] with
  | false => rfl
  | true =>
    unfold isWay at hw
    simp only [Bool.and_eq_true, decide_eq_true_eq, List.headD_cons] at hw
    exact absurd (I.j.gs g hg).1 (hn g (of_decide_eq_true hw.2.1))

/-! ### paper -/
/-- what a paper is -/
inductive Ppr (c : List (List Int)) (st gl : List Int) : Fy.D → Prop
  | way (w : List Int) : w.length ≤ 60 → isWay c st gl w = true → (∀ B, isBar c st gl B = false) → Ppr c st gl (.tup [.str "way", dI w])
  | bar (B : List Int) : B.length ≤ 100 → isBar c st gl B = true → isWay c st gl B = false → (∀ g ∈ gl, isWay c st gl [g] = false) → Ppr c st gl (.tup [.str "bar", dI B])
theorem e_paper_by {c : List (List Int)} {st gl : List Int} (h : Case c st gl) : ∃ d, (∀ S b, F_paper_by [dC c, dI st, dI gl] S b = .ok (.d d) S) ∧ Ppr c st gl d := by
  obtain ⟨R, I, hw⟩ := e_way_by h
  rcases hw with ⟨hn, e⟩ | ⟨x, y, w, hx, hc, hy, hr, hl, e⟩
  · obtain ⟨R2, e2, C⟩ := e_come_to h.sm h.ok h.ps
    have hb := bar_is I h.ok h.ps hn C
    have hlen := C.len
    have := h.sm.l
    refine ⟨.tup [.str "bar", dI (srt R2)], fun S b => ?_, .bar _ (by rw [(srt_perm R2).length_eq]; omega) hb (bar_no_way hb) fun g hg => one_no_way I hn g hg⟩
    unfold F_paper_by m_paper_by
    simp [x_bnd, x_mret, x_some, x_none, x_mvar, x_mvw, x_mbin, x_mtb, x_tand, x_tor, x_tnot, x_vand, x_vor, x_vnot, x_vif, x_chain, x_m1, x_mN, x_mnil, x_mcons, x_mtup, x_mlst, x_tmlst, x_mcall, x_tcall, x_fz, x_mD, x_get2, x_msl1, x_msl2, x_sseq, x_snext, x_sdrop, x_sset, x_sret, x_sretN, x_sretT, x_sretO, x_sif, x_sraise, x_sasg, x_spar, x_ssetT, x_saug, x_gset, x_gnil, x_gcons, x_gtup, x_gtupL, x_gstar, x_isrc, x_ienum, x_izip, x_irange1, x_run, x_mcomp, x_mlc2, x_mlc, x_sfor, slots0, e, e2, freeze, gIsNot, gIs, szn]
  · have hin : ∀ z ∈ x :: w, inn z 0 (c.length - 1) = true := fun z hz => I.j.inr z (hr z hz)
    refine ⟨.tup [.str "way", dI (x :: w)], fun S b => ?_, .way _ (by rw [List.length_cons]; omega) (way_is hx hc hy hin) fun B => no_bar hx hc hy⟩
    unfold F_paper_by m_paper_by
    have hi : ∀ S, gIsNot S (dI (x :: w)) .non = some (.bl true) := fun _ => rfl
    simp [x_bnd, x_mret, x_some, x_none, x_mvar, x_mvw, x_mbin, x_mtb, x_tand, x_tor, x_tnot, x_vand, x_vor, x_vnot, x_vif, x_chain, x_m1, x_mN, x_mnil, x_mcons, x_mtup, x_mlst, x_tmlst, x_mcall, x_tcall, x_fz, x_mD, x_get2, x_msl1, x_msl2, x_sseq, x_snext, x_sdrop, x_sset, x_sret, x_sretN, x_sretT, x_sretO, x_sif, x_sraise, x_sasg, x_spar, x_ssetT, x_saug, x_gset, x_gnil, x_gcons, x_gtup, x_gtupL, x_gstar, x_isrc, x_ienum, x_izip, x_irange1, x_run, x_mcomp, x_mlc2, x_mlc, x_sfor, slots0, e, freeze, hi, szn]

theorem e_paper {c : List (List Int)} {st gl : List Int} {S : List I8} {b : Bool} {d : Fy.D} (h : Case c st gl) (hp : ∀ S b, F_paper_by [dC c, dI st, dI gl] S b = .ok (.d d) S) : F_paper [dC c, dI st, dI gl] S b = .ok (.d d) S := by
  unfold F_paper m_paper
  simp [x_bnd, x_mret, x_some, x_none, x_mvar, x_mvw, x_mbin, x_mtb, x_tand, x_tor, x_tnot, x_vand, x_vor, x_vnot, x_vif, x_chain, x_m1, x_mN, x_mnil, x_mcons, x_mtup, x_mlst, x_tmlst, x_mcall, x_tcall, x_fz, x_mD, x_get2, x_msl1, x_msl2, x_sseq, x_snext, x_sdrop, x_sset, x_sret, x_sretN, x_sretT, x_sretO, x_sif, x_sraise, x_sasg, x_spar, x_ssetT, x_saug, x_gset, x_gnil, x_gcons, x_gtup, x_gtupL, x_gstar, x_isrc, x_ienum, x_izip, x_irange1, x_run, x_mcomp, x_mlc2, x_mlc, x_sfor, slots0, e_need_all h.sm h.ok h.ls h.lg h.ps h.pg, hp, freeze]
end K90

set_option maxHeartbeats 400000
namespace Fy
open PySem PySem.Spec L2
/-! ### for simp: written texts, written lists -/
theorem toNat_inj : ∀ {l l' : List Char}, l.map Char.toNat = l'.map Char.toNat → l = l'
  | [], [], _ => rfl
  | [], _ :: _, h => by cases h
  | _ :: _, [], h => by cases h
  | a :: l, b :: l', h => by
    rw [List.map_cons, List.map_cons] at h
    injection h with h1 h2
    rw [toNat_inj h2, show a = b from Char.ext (UInt32.toNat_inj.mp h1)]
theorem ofS_inj {a b : String} (h : Str.ofString a = Str.ofString b) : a = b := by
  rw [Str.ofString_eq_toList, Str.ofString_eq_toList] at h
  injection h with h
  have h2 := toNat_inj (Array.mk.inj h)
  exact String.ext h2
@[simp] theorem ofS_eq {a b : String} : (Str.ofString a = Str.ofString b) = (a = b) := propext ⟨ofS_inj, fun h => by rw [h]⟩
@[simp] theorem ofS_beq {a b : String} : (Str.ofString a == Str.ofString b) = decide (a = b) := by
  by_cases h : a = b
  · subst h; simp
  · rw [decide_eq_false h]
    exact beq_false_of_ne fun e => h (ofS_inj e)
section
variable {A : Type} {g : GT} {t : Q8 → Out Bool} {e : A → Q8 → Out A} {vs : List Nat} {a : A} {q : Q8} {d : D} {ds : List D} {b : S8}
@[simp] theorem x_tnNil : tnL g t e vs [] a q = .ok a q := rfl
@[simp] theorem x_tnCons : tnL g t e vs (d :: ds) a q = (match g d q with
    | none => .no
    | some q2 => match t q2 with
      | .ok true q3 => match e a q3 with
        | .ok acc' q4 => if okW q4.r vs = true then tnL g t e vs ds acc' ⟨wipeR q4.r vs, q4.s, q4.w⟩ else .no
        | _ => .no
      | .ok false q3 => if okW q3.r vs = true then tnL g t e vs ds a ⟨wipeR q3.r vs, q3.s, q3.w⟩ else .no
      | _ => .no) := rfl
@[simp] theorem x_forNil : sforL g b [] q = .ok .nx q := rfl
theorem x_forCons : sforL g b (d :: ds) q = (match g d q with
    | none => .no
    | some q1 => match b q1 with
      | .ok .nx q' => sforL g b ds q'
      | .ok .ct q' => sforL g b ds q'
      | .ok .bk q' => .ok .nx q'
      | .ok (.rt t) q' => .ok (.rt t) q'
      | .exc e q' => .exc e q'
      | .no => .no) := by
  rw [sforL]
  dsimp only
  cases g d q with
  | none => rfl
  | some q1 =>
    dsimp only
    unfold bnd
    cases b q1 with
    | ok f q' => cases f <;> rfl
    | _ => rfl
@[simp] theorem x_stL {m : M8} {acc : List D} : stL m acc q = (match m q with | .ok y q' => (if acc.length < sizeLine then .ok (acc ++ [y]) q' else .no) | .exc e q' => .exc e q' | .no => .no) := by
  unfold stL bnd
  cases m q with
  | ok y q' => dsimp only; by_cases h : acc.length < sizeLine <;> simp [h]
  | _ => rfl
@[simp] theorem x_stS {m : M8} {acc : List Int} : stS m acc q = (match m q with | .ok (.int k) q' => (if acc.length < 60 then .ok (if k ∈ acc then acc else acc ++ [k]) q' else .no) | .exc e q' => .exc e q' | _ => .no) := by
  unfold stS bnd
  cases m q with
  | ok y q' => cases y <;> rfl
  | _ => rfl
@[simp] theorem x_tyes8 : tyes q = .ok true q := rfl
theorem x_msset {it : Q8 → Out (List D)} {t : Q8 → Out Bool} {e : M8} : msset it g t e vs q = (match it q with | .ok ds q' => (if okW q'.r vs = true then (match tnL g t (stS e) vs ds [] ⟨wipeR q'.r vs, q'.s, q'.w⟩ with | .ok a q2 => .ok (.lst ((srt a).map .int)) q2 | .exc e q2 => .exc e q2 | .no => .no) else .no) | .exc e q' => .exc e q' | .no => .no) := by
  unfold msset
  rw [x_mcomp]
  cases it q with
  | ok ds q' =>
    dsimp only <;> (
      by_cases h : okW q'.r vs = true
      · rw [if_pos h, if_pos h] <;> (cases tnL g t (stS e) vs ds [] ⟨wipeR q'.r vs, q'.s, q'.w⟩ <;> rfl)
      · rw [if_neg h, if_neg h])
  | _ => rfl
end
section
variable {G : Tb} {S : List I8} {a b c d e f : D} {l : List D}
@[simp] theorem ix_t0 : gIx G S (.tup (a :: l)) (.int 0) = some a := by
  show atI (a :: l) 0 = _
  unfold atI ixN; rw [if_pos (by omega), if_pos (by simp <;> omega)]; rfl
@[simp] theorem ix_t1 : gIx G S (.tup (a :: b :: l)) (.int 1) = some b := by
  show atI (a :: b :: l) 1 = _
  unfold atI ixN; rw [if_pos (by omega), if_pos (by simp <;> omega)]; rfl
@[simp] theorem ix_t2 : gIx G S (.tup (a :: b :: c :: l)) (.int 2) = some c := by
  show atI (a :: b :: c :: l) 2 = _
  unfold atI ixN; rw [if_pos (by omega), if_pos (by simp <;> omega)]; rfl
@[simp] theorem ix_t3 : gIx G S (.tup (a :: b :: c :: d :: l)) (.int 3) = some d := by
  show atI (a :: b :: c :: d :: l) 3 = _
  unfold atI ixN; rw [if_pos (by omega), if_pos (by simp <;> omega)]; rfl
@[simp] theorem ix_t4 : gIx G S (.tup (a :: b :: c :: d :: e :: l)) (.int 4) = some e := by
  show atI (a :: b :: c :: d :: e :: l) 4 = _
  unfold atI ixN; rw [if_pos (by omega), if_pos (by simp <;> omega)]; rfl
@[simp] theorem ix_t5 : gIx G S (.tup (a :: b :: c :: d :: e :: f :: l)) (.int 5) = some f := by
  show atI (a :: b :: c :: d :: e :: f :: l) 5 = _
  unfold atI ixN; rw [if_pos (by omega), if_pos (by simp <;> omega)]; rfl
@[simp] theorem ix_l0 : gIx G S (.lst (a :: l)) (.int 0) = some a := ix_t0 (G := G) (S := S)
@[simp] theorem ix_l1 : gIx G S (.lst (a :: b :: l)) (.int 1) = some b := ix_t1 (G := G) (S := S)
@[simp] theorem ix_l2 : gIx G S (.lst (a :: b :: c :: l)) (.int 2) = some c := ix_t2 (G := G) (S := S)
@[simp] theorem ix_l3 : gIx G S (.lst (a :: b :: c :: d :: l)) (.int 3) = some d := ix_t3 (G := G) (S := S)
theorem atI_neg {α : Type} {xs : List α} : atI xs (-1) = xs.getLast? := by
  unfold atI ixN
  rw [if_neg (by omega)]
  cases xs with
  | nil => rfl
  | cons x xs =>
    rw [if_pos (by simp; omega), List.getLast?_eq_getElem?]
    show (x :: xs)[(-1 + ((x :: xs).length : Int)).toNat]? = _
    congr 1
    simp
    omega
@[simp] theorem ix_tl : gIx G S (.tup l) (.int (-1)) = l.getLast? := atI_neg
@[simp] theorem ix_ll : gIx G S (.lst l) (.int (-1)) = l.getLast? := atI_neg
@[simp] theorem neg_1 {i : Int} : gNeg S (.int i) = some (.int (-i)) := rfl
theorem cut_1 {α : Type} (xs : List α) : cutD xs (some 1) none = xs.tail := by
  rw [← List.drop_one]
  unfold cutD
  rw [show HT.sIx xs.length 0 (some 1) = min 1 xs.length from HT.sIx_nat xs.length 0 1, HT.sIx_none]
  cases xs with
  | nil => rfl
  | cons x r =>
    rw [show min 1 (x :: r).length = 1 by rw [List.length_cons]; omega]
    show (List.take ((x :: r).length - 1) r) = r
    rw [List.length_cons, Nat.add_sub_cancel]
    exact List.take_length
theorem cut_l {α : Type} (xs : List α) : cutD xs none (some (-1)) = xs.dropLast := by
  unfold cutD
  rw [HT.sIx_none]
  have h : HT.sIx xs.length xs.length (some (-1)) = xs.length - 1 := by
    unfold HT.sIx
    simp
    omega
  rw [h]
  simp [List.dropLast_eq_take]
@[simp] theorem sl_t1 : gSl (some 1) none S (.tup l) = some (.tup l.tail) := by unfold gSl; dsimp only; rw [cut_1]
@[simp] theorem sl_tl : gSl none (some (-1)) S (.tup l) = some (.tup l.dropLast) := by unfold gSl; dsimp only; rw [cut_l]
@[simp] theorem sl_l1 : gSl (some 1) none S (.lst l) = some (.lst l.tail) := by unfold gSl; dsimp only; rw [cut_1]
@[simp] theorem sl_ll : gSl none (some (-1)) S (.lst l) = some (.lst l.dropLast) := by unfold gSl; dsimp only; rw [cut_l]
theorem ix_gl {x y : Str} : gIx G S (.gl x) (.str y) = (G x).lookup y := rfl
@[simp] theorem items_t : itemsD (.tup l) = some l := rfl
@[simp] theorem items_l : itemsD (.lst l) = some l := rfl
@[simp] theorem eq_str {x y : Str} : gEq S (.str x) (.str y) = some (.bl (decide (x = y))) := rfl
@[simp] theorem ne_str {x y : Str} : gNe S (.str x) (.str y) = some (.bl (!decide (x = y))) := rfl
@[simp] theorem eq_int {x y : Int} : gEq S (.int x) (.int y) = some (.bl (decide (x = y))) := rfl
@[simp] theorem ne_int {x y : Int} : gNe S (.int x) (.int y) = some (.bl (!decide (x = y))) := rfl
@[simp] theorem len_t : gLen S (.tup l) = some (.int l.length) := by simp [gLen]
@[simp] theorem len_l : gLen S (.lst l) = some (.int l.length) := by simp [gLen]
@[simp] theorem add_i {x y : Int} : gAdd S (.int x) (.int y) = some (.int (x + y)) := rfl
@[simp] theorem sub_i {x y : Int} : gSub S (.int x) (.int y) = some (.int (x - y)) := rfl
@[simp] theorem lt_i {x y : Int} : gLt S (.int x) (.int y) = some (.bl (decide (x < y))) := rfl
@[simp] theorem le_i {x y : Int} : gLe S (.int x) (.int y) = some (.bl (decide (x ≤ y))) := rfl
@[simp] theorem gt_i {x y : Int} : gGt S (.int x) (.int y) = some (.bl (decide (y < x))) := rfl
@[simp] theorem ge_i {x y : Int} : gGe S (.int x) (.int y) = some (.bl (decide (y ≤ x))) := rfl
end
end Fy

set_option maxHeartbeats 1000000
namespace K90
open PySem PySem.Spec Fy
/-! ### deeds -/
inductive Dd where
  | num (a : Str) (n : Int) | sum (a b o c : Str) | new (g : Str) | lt (g h m : Str) | add (g a : Str)
  | put (g a : Str) (k : Int) (c : Str) | tie (g a : Str) (k : Int) (c : Str) | hang (g a : Str) (k : Int) (h m : Str)
  | get (a g b : Str) (k : Int) | sort (a g b : Str) (k : Int) | pick (g h a : Str) (k : Int) (m : Str)
  | send (s : Int) (g m : Str) | take (g : Str) (t : Int) | tell (a : Str) | shw (g : Str) | test (a : Str)
namespace Dd
def toD : Dd → Fy.D
  | num a n => .tup [.str "num", .str a, .int n]
  | sum a b o c => .tup [.str "sum", .str a, .str b, .str o, .str c]
  | new g => .tup [.str "new", .str g]
  | lt g h m => .tup [.str "let", .str g, .str h, .str m]
  | add g a => .tup [.str "add", .str g, .str a]
  | put g a k c => .tup [.str "put", .str g, .str a, .int k, .str c]
  | tie g a k c => .tup [.str "tie", .str g, .str a, .int k, .str c]
  | hang g a k h m => .tup [.str "hang", .str g, .str a, .int k, .str h, .str m]
  | get a g b k => .tup [.str "get", .str a, .str g, .str b, .int k]
  | sort a g b k => .tup [.str "sort", .str a, .str g, .str b, .int k]
  | pick g h a k m => .tup [.str "pick", .str g, .str h, .str a, .int k, .str m]
  | send s g m => .tup [.str "send", .int s, .str g, .str m]
  | take g t => .tup [.str "take", .str g, .int t]
  | tell a => .tup [.str "tell", .str a]
  | shw g => .tup [.str "show", .str g]
  | test a => .tup [.str "test", .str a]
/-- used, filled, spent, the mark -/
def us : Dd → List Str
  | lt _ h _ => [h] | pick _ h _ _ _ => [h] | add g _ => [g] | put g _ _ _ => [g] | tie g _ _ _ => [g] | get _ g _ _ => [g] | sort _ g _ _ => [g]
  | send _ g _ => [g] | shw g => [g] | hang g _ _ h _ => [g, h] | _ => []
def fl : Dd → Option Str
  | new g => some g | lt g _ _ => some g | pick g _ _ _ _ => some g | take g _ => some g | _ => none
def sp : Dd → Option Str
  | lt _ h _ => some h | hang _ _ _ h _ => some h | pick _ h _ _ _ => some h | send _ g _ => some g | _ => none
def mk : Dd → Str
  | lt _ _ m => m | hang _ _ _ _ m => m | pick _ _ _ _ m => m | send _ _ m => m | _ => ""
end Dd
theorem szp {n : Nat} (h : n ≤ 1000) : n < sizeLine := by rw [sizeLine_eq]; omega
theorem e_used_by (d : Dd) {S : List I8} {b : Bool} : F_used_by [d.toD] S b = .ok (.d (.lst (d.us.map .str))) S := by
  cases d <;> simp [F_used_by, m_used_by, slots0, Dd.toD, Dd.us, isDic, gGet2, c_USED, G, t_USED, List.lookup, okW, datS, wipeR, sizeLine_eq]
def optD : Option Str → Fy.D
  | some x => .str x
  | none => .non
theorem e_filled_by (d : Dd) {S : List I8} {b : Bool} : F_filled_by [d.toD] S b = .ok (.d (optD d.fl)) S := by
  cases d <;> simp [optD, F_filled_by, m_filled_by, slots0, Dd.toD, Dd.fl, gIn, dIn, ix_gl, c_FILLED, G, t_FILLED, List.lookup, okW, datS, wipeR, sizeLine_eq]
theorem e_spent_by (d : Dd) {x : Str} (h : d.sp = some x) {S : List I8} {b : Bool} : F_spent_by [d.toD] S b = .ok (.d (.str x)) S := by
  cases d <;> first | (cases h; done) | skip
  all_goals
    cases h
    simp [F_spent_by, m_spent_by, slots0, Dd.toD, Dd.fl, gIn, dIn, ix_gl, c_SPENT, G, t_SPENT, List.lookup, okW, datS, wipeR, sizeLine_eq]
theorem e_law_marked (d : Dd) {S : List I8} {b : Bool} : F__law_marked [d.toD] S b = .ok (.d (.bl d.sp.isSome)) S := by
  cases d <;> simp [F__law_marked, m__law_marked, slots0, Dd.toD, Dd.sp, gIn, dIn, flatD, inF, eqF, okW, datS, wipeR, sizeLine_eq]
theorem e_law_uses (d : Dd) {S : List I8} {b : Bool} : ∃ t, F__law_uses [d.toD] S b = .ok t S ∧ freeze t = .lst (d.us.map .str) := by
  cases d <;> simp [F__law_uses, m__law_uses, slots0, Dd.toD, Dd.us, gIn, dIn, flatD, inF, eqF, okW, datS, wipeR, sizeLine_eq, freeze]
theorem e_law_fills (d : Dd) {S : List I8} {b : Bool} : F__law_fills [d.toD] S b = .ok (.d (.str (d.fl.getD ""))) S := by
  cases d <;> simp [F__law_fills, m__law_fills, slots0, Dd.toD, Dd.fl, gIn, dIn, flatD, inF, eqF, okW, datS, wipeR, sizeLine_eq]
theorem e_law_spends (d : Dd) {x : Str} (h : d.sp = some x) {S : List I8} {b : Bool} : F__law_spends [d.toD] S b = .ok (.d (.str x)) S := by
  cases d <;> first | (cases h; done) | skip
  all_goals
    cases h
    simp [F__law_spends, m__law_spends, slots0, Dd.toD, Dd.fl, okW, datS, wipeR, sizeLine_eq]
/-! names -/
def NN : List Str := ["a", "b", "c", "count"]
def GG : List Str := ["G", "H", "Kit"]
theorem in_small {x : Str} {S : List I8} (h : strIn x "abcdefghijklmnopqrstuvwxyz" = true) : gIn G S (.str x) c_SMALL = some (.bl true) := by
  show some (Fy.D.bl (strIn x "abcdefghijklmnopqrstuvwxyz")) = _
  rw [h]
theorem in_caps {x : Str} {S : List I8} (h : strIn x "ABCDEFGHIJKLMNOPQRSTUVWXYZ" = true) : gNotIn G S (.str x) c_CAPITALS = some (.bl false) := by
  show some (Fy.D.bl (!strIn x "ABCDEFGHIJKLMNOPQRSTUVWXYZ")) = _
  rw [h]; rfl
theorem e_is_number_name {x : Str} (h : x ∈ NN) {S : List I8} {b : Bool} : F_is_number_name [.str x] S b = .ok (.d (.bl true)) S := by
  have i1 : itemsD (.str "a") = some [.str "a"] := rfl
  have i2 : itemsD (.str "b") = some [.str "b"] := rfl
  have i3 : itemsD (.str "c") = some [.str "c"] := rfl
  have i4 : itemsD (.str "count") = some [.str "c", .str "o", .str "u", .str "n", .str "t"] := rfl
  have l1 : gLen S (.str "a") = some (.int 1) := rfl
  have l2 : gLen S (.str "b") = some (.int 1) := rfl
  have l3 : gLen S (.str "c") = some (.int 1) := rfl
  have l4 : gLen S (.str "count") = some (.int 5) := rfl
  have a1 : gIn G S (.str "a") c_SMALL = some (.bl true) := in_small (by decide +kernel)
  have a2 : gIn G S (.str "b") c_SMALL = some (.bl true) := in_small (by decide +kernel)
  have a3 : gIn G S (.str "c") c_SMALL = some (.bl true) := in_small (by decide +kernel)
  have a4 : gIn G S (.str "o") c_SMALL = some (.bl true) := in_small (by decide +kernel)
  have a5 : gIn G S (.str "u") c_SMALL = some (.bl true) := in_small (by decide +kernel)
  have a6 : gIn G S (.str "n") c_SMALL = some (.bl true) := in_small (by decide +kernel)
  have a7 : gIn G S (.str "t") c_SMALL = some (.bl true) := in_small (by decide +kernel)
  simp only [NN, List.mem_cons, List.not_mem_nil, or_false] at h
  rcases h with h | h | h | h <;> subst h <;> simp [F_is_number_name, m_is_number_name, slots0, gIsI, isD, tyD, subTy, i1, i2, i3, i4, l1, l2, l3, l4, a1, a2, a3, a4, a5, a6, a7, c_MOST_SIGNS, okW, datS, wipeR, sizeLine_eq, gAll, bls]
theorem e_is_graph_name {x : Str} (h : x ∈ GG) {S : List I8} {b : Bool} : F_is_graph_name [.str x] S b = .ok (.d (.bl true)) S := by
  have i1 : itemsD (.str "") = some [] := rfl
  have i4 : itemsD (.str "it") = some [.str "i", .str "t"] := rfl
  have l1 : gLen S (.str "G") = some (.int 1) := rfl
  have l2 : gLen S (.str "H") = some (.int 1) := rfl
  have l3 : gLen S (.str "Kit") = some (.int 3) := rfl
  have x1 : gIx G S (.str "G") (.int 0) = some (.str "G") := by simp [gIx, sizeLine_eq]; refine ⟨by decide +kernel, 71, ?_, ?_⟩ <;> decide +kernel
  have x2 : gIx G S (.str "H") (.int 0) = some (.str "H") := by simp [gIx, sizeLine_eq]; refine ⟨by decide +kernel, 72, ?_, ?_⟩ <;> decide +kernel
  have x3 : gIx G S (.str "Kit") (.int 0) = some (.str "K") := by simp [gIx, sizeLine_eq]; refine ⟨by decide +kernel, 75, ?_, ?_⟩ <;> decide +kernel
  have s1 : gSl (some 1) none S (.str "G") = some (.str "") := by simp [gSl, sizeLine_eq]; exact ⟨by decide +kernel, by rfl⟩
  have s2 : gSl (some 1) none S (.str "H") = some (.str "") := by simp [gSl, sizeLine_eq]; exact ⟨by decide +kernel, by rfl⟩
  have s3 : gSl (some 1) none S (.str "Kit") = some (.str "it") := by simp [gSl, sizeLine_eq]; exact ⟨by decide +kernel, by rfl⟩
  have a1 : gNotIn G S (.str "G") c_CAPITALS = some (.bl false) := in_caps (by decide +kernel)
  have a2 : gNotIn G S (.str "H") c_CAPITALS = some (.bl false) := in_caps (by decide +kernel)
  have a3 : gNotIn G S (.str "K") c_CAPITALS = some (.bl false) := in_caps (by decide +kernel)
  have a4 : gIn G S (.str "i") c_SMALL = some (.bl true) := in_small (by decide +kernel)
  have a5 : gIn G S (.str "t") c_SMALL = some (.bl true) := in_small (by decide +kernel)
  simp only [GG, List.mem_cons, List.not_mem_nil, or_false] at h
  rcases h with h | h | h <;> subst h <;> simp [F_is_graph_name, m_is_graph_name, slots0, gIsI, isD, tyD, subTy, i1, i4, l1, l2, l3, x1, x2, x3, s1, s2, s3, a1, a2, a3, a4, a5, c_MOST_SIGNS, okW, datS, wipeR, sizeLine_eq, gAll, bls]
/-! ### deeds of flat code -/
def okF : Fy.D → Bool
  | .str x => PyData.strOk x
  | .int _ => true
  | .bl _ => true
  | .non => true
  | _ => false
theorem flat_pys : ∀ {xs : List Fy.D}, xs.all okF = true → PyData.canLayAll0 (pys xs) = true ∧ PyData.depthAll (pys xs) = 0
  | [], _ => ⟨rfl, rfl⟩
  | x :: xs, h => by
    rw [List.all_cons, Bool.and_eq_true] at h
    obtain ⟨h1, h2⟩ := flat_pys h.2
    cases x <;> first | (cases h.1; done) | skip
    all_goals simp only [pys, py, PyData.canLayAll0, PyData.canLay0, PyData.depthAll, PyData.depth, h1, h2, Bool.and_true, Bool.true_and]
    all_goals first | exact ⟨trivial, rfl⟩ | exact ⟨h.1, rfl⟩ | skip
theorem shaped_flat {xs : List Fy.D} (h : xs.all okF = true) : SeqAt.shaped (py (.tup xs)) = true := by
  obtain ⟨h1, h2⟩ := flat_pys h
  unfold SeqAt.shaped
  simp only [py, PyData.canLay0, PyData.depth, h1, h2]
  rfl
theorem eq_flat0 {x : Fy.D} {xs : List Fy.D} (h : (x :: xs).all okF = true) : dEq (.tup (x :: xs)) (.tup []) = some false := by
  show (if SeqAt.shaped (py (.tup (x :: xs))) && SeqAt.shaped (py (.tup [])) then some (PyData.eqv (py (.tup (x :: xs))) (py (.tup []))) else none) = _
  rw [shaped_flat h, show SeqAt.shaped (py (.tup [])) = true from rfl]
  rfl
theorem ne_flat0 {S : List I8} {x : Fy.D} {xs : List Fy.D} (h : (x :: xs).all okF = true) : gNe S (.tup (x :: xs)) (.tup []) = some (.bl true) := by
  unfold gNe; rw [eq_flat0 h]; rfl
theorem eqs_flat0 {S : List I8} {x : Fy.D} {xs : List Fy.D} (h : (x :: xs).all okF = true) : gEq S (.tup (x :: xs)) (.tup []) = some (.bl false) := by
  unfold gEq; rw [eq_flat0 h]; rfl
theorem e_has_word {w : Str} {xs : List Fy.D} (h : (Fy.D.str w :: xs).all okF = true) (h2 : (t_FORMS.lookup w).isSome = true) {S : List I8} {b : Bool} : F_has_word [.tup (.str w :: xs)] S b = .ok (.d (.bl true)) S := by
  have h3 : gIn G S (.str w) c_FORMS = some (.bl true) := by
    unfold gIn dIn c_FORMS
    simp [G, h2]
    decide
  simp [F_has_word, m_has_word, slots0, gIsI, isD, tyD, subTy, ne_flat0 h, h3, sizeLine_eq]
def OO : List Str := ["+", "-", "*", "<", "="]
def MM : List Str := ["copy", "give"]
namespace Dd
def wf : Dd → Prop
  | num a n => a ∈ NN ∧ inn n (-9999) 9999 = true
  | sum a b o c => a ∈ NN ∧ b ∈ NN ∧ o ∈ OO ∧ c ∈ NN
  | new g => g ∈ GG
  | lt g h m => g ∈ GG ∧ h ∈ GG ∧ g ≠ h ∧ m ∈ MM
  | add g a => g ∈ GG ∧ a ∈ NN
  | put g a k c => g ∈ GG ∧ a ∈ NN ∧ inn k 0 2 = true ∧ c ∈ NN
  | tie g a k c => g ∈ GG ∧ a ∈ NN ∧ inn k 0 2 = true ∧ c ∈ NN
  | hang g a k h m => g ∈ GG ∧ a ∈ NN ∧ inn k 0 2 = true ∧ h ∈ GG ∧ g ≠ h ∧ m ∈ MM
  | get a g b k => a ∈ NN ∧ g ∈ GG ∧ b ∈ NN ∧ inn k 0 2 = true
  | sort a g b k => a ∈ NN ∧ g ∈ GG ∧ b ∈ NN ∧ inn k 0 2 = true
  | pick g h a k m => g ∈ GG ∧ h ∈ GG ∧ a ∈ NN ∧ inn k 0 2 = true ∧ m ∈ MM
  | send s g m => (s = 0 ∨ s = 3) ∧ g ∈ GG ∧ m ∈ MM
  | take g t => g ∈ GG ∧ (t = 1 ∨ t = 5)
  | tell a => a ∈ NN
  | shw g => g ∈ GG
  | test a => a ∈ NN
/-- without the mark -/
def toU : Dd → Fy.D
  | lt g h m => .tup [.str "let", .str g, .str h]
  | hang g a k h m => .tup [.str "hang", .str g, .str a, .int k, .str h]
  | pick g h a k m => .tup [.str "pick", .str g, .str h, .str a, .int k]
  | send s g m => .tup [.str "send", .int s, .str g]
  | d => d.toD
def isT : Dd → Bool
  | test _ => true
  | _ => false
end Dd
theorem ok_NN {x : Str} (h : x ∈ NN) : PyData.strOk x = true := by
  have : ∀ x ∈ NN, PyData.strOk x = true := by decide +kernel
  exact this x h
theorem ok_GG {x : Str} (h : x ∈ GG) : PyData.strOk x = true := by
  have : ∀ x ∈ GG, PyData.strOk x = true := by decide +kernel
  exact this x h
theorem ok_OO {x : Str} (h : x ∈ OO) : PyData.strOk x = true := by
  have : ∀ x ∈ OO, PyData.strOk x = true := by decide +kernel
  exact this x h
theorem ok_MM {x : Str} (h : x ∈ MM) : PyData.strOk x = true := by
  have : ∀ x ∈ MM, PyData.strOk x = true := by decide +kernel
  exact this x h
section
variable {S : List I8} {b : Bool}
theorem e_is_op {x : Str} (h : x ∈ OO) : F_is_op [.str x] S b = .ok (.d (.bl true)) S := by
  have h2 : gIn G S (.str x) c_OPS = some (.bl true) := by
    simp only [OO, List.mem_cons, List.not_mem_nil, or_false] at h
    rcases h with h | h | h | h | h <;> subst h <;> rfl
  simp [F_is_op, m_is_op, slots0, gIsI, isD, tyD, subTy, h2]
theorem p_a {x : Str} (h : x ∈ NN) : F_is_part [.non, .int 0, .str "a", .str x] S b = .ok (.d (.bl true)) S := by
  simp [F_is_part, m_is_part, slots0, e_is_number_name h, freeze]
theorem p_g {x : Str} (h : x ∈ GG) : F_is_part [.non, .int 0, .str "g", .str x] S b = .ok (.d (.bl true)) S := by
  simp [F_is_part, m_is_part, slots0, e_is_graph_name h, freeze]
theorem p_n {x : Int} (h : inn x (-9999) 9999 = true) : F_is_part [.non, .int 0, .str "n", .int x] S b = .ok (.d (.bl true)) S := by
  simp [F_is_part, m_is_part, slots0, F_is_number, m_is_number, c_MOST_NUMBER, e_is_within, freeze, h]
theorem p_o {x : Str} (h : x ∈ OO) : F_is_part [.non, .int 0, .str "o", .str x] S b = .ok (.d (.bl true)) S := by
  simp [F_is_part, m_is_part, slots0, e_is_op h, freeze]
theorem p_k {x : Int} (h : inn x 0 2 = true) : F_is_part [.non, .int 0, .str "k", .int x] S b = .ok (.d (.bl true)) S := by
  simp [F_is_part, m_is_part, slots0, c_PLACES, e_is_within, freeze, h]
theorem e_is_end_of {x y : Int} (h : inn x 0 5 = true) : F_is_end_of [.non, .int x, .int 0, .int y] S b = .ok (.d (.bl true)) S := by
  simp [F_is_end_of, m_is_end_of, slots0, c_MOST_CHANNELS, e_is_within, freeze, h, gIs]
theorem p_s {x : Int} (h : inn x 0 5 = true) : F_is_part [.non, .int 0, .str "s", .int x] S b = .ok (.d (.bl true)) S := by
  simp [F_is_part, m_is_part, slots0, e_is_end_of h, freeze]
theorem p_t {x : Int} (h : inn x 0 5 = true) : F_is_part [.non, .int 0, .str "t", .int x] S b = .ok (.d (.bl true)) S := by
  simp [F_is_part, m_is_part, slots0, e_is_end_of h, freeze]
end
end K90

set_option maxHeartbeats 1000000
namespace K90
open PySem PySem.Spec Fy
section
variable {S : List I8} {b : Bool}
theorem i_an : itemsD (.str "an") = some [.str "a", .str "n"] := rfl
theorem i_aaoa : itemsD (.str "aaoa") = some [.str "a", .str "a", .str "o", .str "a"] := rfl
theorem i_g : itemsD (.str "g") = some [.str "g"] := rfl
theorem i_gg : itemsD (.str "gg") = some [.str "g", .str "g"] := rfl
theorem i_ga : itemsD (.str "ga") = some [.str "g", .str "a"] := rfl
theorem i_gaka : itemsD (.str "gaka") = some [.str "g", .str "a", .str "k", .str "a"] := rfl
theorem i_gakg : itemsD (.str "gakg") = some [.str "g", .str "a", .str "k", .str "g"] := rfl
theorem i_agak : itemsD (.str "agak") = some [.str "a", .str "g", .str "a", .str "k"] := rfl
theorem i_ggak : itemsD (.str "ggak") = some [.str "g", .str "g", .str "a", .str "k"] := rfl
theorem i_sg : itemsD (.str "sg") = some [.str "s", .str "g"] := rfl
theorem i_gt : itemsD (.str "gt") = some [.str "g", .str "t"] := rfl
theorem i_a : itemsD (.str "a") = some [.str "a"] := rfl
theorem n_an : gLen S (.str "an") = some (.int 2) := rfl
theorem n_aaoa : gLen S (.str "aaoa") = some (.int 4) := rfl
theorem n_g : gLen S (.str "g") = some (.int 1) := rfl
theorem n_gg : gLen S (.str "gg") = some (.int 2) := rfl
theorem n_ga : gLen S (.str "ga") = some (.int 2) := rfl
theorem n_gaka : gLen S (.str "gaka") = some (.int 4) := rfl
theorem n_gakg : gLen S (.str "gakg") = some (.int 4) := rfl
theorem n_agak : gLen S (.str "agak") = some (.int 4) := rfl
theorem n_ggak : gLen S (.str "ggak") = some (.int 4) := rfl
theorem n_sg : gLen S (.str "sg") = some (.int 2) := rfl
theorem n_gt : gLen S (.str "gt") = some (.int 2) := rfl
theorem n_a : gLen S (.str "a") = some (.int 1) := rfl
theorem fm {w : Str} : gIx G S c_FORMS (.str w) = t_FORMS.lookup w := by simp [c_FORMS, ix_gl, G]
theorem ul {w : Str} : gNotIn G S (.str w) c_UNLIKE = some (.bl (!(t_UNLIKE.lookup w).isSome)) := by
  unfold gNotIn dIn c_UNLIKE
  simp [G]
  decide
theorem ui {w : Str} : gIx G S c_UNLIKE (.str w) = t_UNLIKE.lookup w := by simp [c_UNLIKE, ix_gl, G]
theorem star1 {gs : GTs} {q : Q8} {a : Fy.D} {l : List Fy.D} : gstar 1 gs (.tup (a :: l)) q = gs [a, .lst l] q := by
  rw [x_gstar]; simp
theorem in5 {s : Int} (h : s = 0 ∨ s = 3 ∨ s = 1 ∨ s = 5) : inn s 0 5 = true := by rcases h with h | h | h | h <;> subst h <;> rfl
theorem e_is_deed (d : Dd) (h : d.wf) (ht : d.isT = false) : F_is_deed [.non, .int 0, d.toU] S b = .ok (.d (.bl true)) S := by
  cases d <;> simp only [Dd.wf] at h
  case num a n =>
    obtain ⟨h_a, h_n⟩ := h
    have h0 := e_has_word (w := "num") (xs := [.str a, .int n]) (by simp [okF, ok_NN h_a]; decide +kernel) rfl (S := S) (b := false)
    simp [F_is_deed, m_is_deed, slots0, Dd.toU, Dd.toD, h0, freeze, fm, ul, ui, t_FORMS, t_UNLIKE, List.lookup, star1, datS, okW, wipeR, zip8, sizeLine_eq, gAll, bls, i_an, n_an, p_a h_a, p_n h_n]
  case sum a b o c =>
    obtain ⟨h_a, h_b, h_o, h_c⟩ := h
    have h0 := e_has_word (w := "sum") (xs := [.str a, .str b, .str o, .str c]) (by simp [okF, ok_NN h_a, ok_NN h_b, ok_OO h_o, ok_NN h_c]; decide +kernel) rfl (S := S) (b := false)
    simp [F_is_deed, m_is_deed, slots0, Dd.toU, Dd.toD, h0, freeze, fm, ul, ui, t_FORMS, t_UNLIKE, List.lookup, star1, datS, okW, wipeR, zip8, sizeLine_eq, gAll, bls, i_aaoa, n_aaoa, p_a h_a, p_a h_b, p_o h_o, p_a h_c]
  case new g =>
    have h_g := h
    have h0 := e_has_word (w := "new") (xs := [.str g]) (by simp [okF, ok_GG h_g]; decide +kernel) rfl (S := S) (b := false)
    simp [F_is_deed, m_is_deed, slots0, Dd.toU, Dd.toD, h0, freeze, fm, ul, ui, t_FORMS, t_UNLIKE, List.lookup, star1, datS, okW, wipeR, zip8, sizeLine_eq, gAll, bls, i_g, n_g, p_g h_g]
  case lt g h m =>
    obtain ⟨h_g, h_h, h_ne, h_m⟩ := h
    have h0 := e_has_word (w := "let") (xs := [.str g, .str h]) (by simp [okF, ok_GG h_g, ok_GG h_h]; decide +kernel) rfl (S := S) (b := false)
    simp [F_is_deed, m_is_deed, slots0, Dd.toU, Dd.toD, h0, freeze, fm, ul, ui, t_FORMS, t_UNLIKE, List.lookup, star1, datS, okW, wipeR, zip8, sizeLine_eq, gAll, bls, i_gg, n_gg, p_g h_g, p_g h_h, h_ne]
  case add g a =>
    obtain ⟨h_g, h_a⟩ := h
    have h0 := e_has_word (w := "add") (xs := [.str g, .str a]) (by simp [okF, ok_GG h_g, ok_NN h_a]; decide +kernel) rfl (S := S) (b := false)
    simp [F_is_deed, m_is_deed, slots0, Dd.toU, Dd.toD, h0, freeze, fm, ul, ui, t_FORMS, t_UNLIKE, List.lookup, star1, datS, okW, wipeR, zip8, sizeLine_eq, gAll, bls, i_ga, n_ga, p_g h_g, p_a h_a]
  case put g a k c =>
    obtain ⟨h_g, h_a, h_k, h_c⟩ := h
    have h0 := e_has_word (w := "put") (xs := [.str g, .str a, .int k, .str c]) (by simp [okF, ok_GG h_g, ok_NN h_a, ok_NN h_c]; decide +kernel) rfl (S := S) (b := false)
    simp [F_is_deed, m_is_deed, slots0, Dd.toU, Dd.toD, h0, freeze, fm, ul, ui, t_FORMS, t_UNLIKE, List.lookup, star1, datS, okW, wipeR, zip8, sizeLine_eq, gAll, bls, i_gaka, n_gaka, p_g h_g, p_a h_a, p_k h_k, p_a h_c]
  case tie g a k c =>
    obtain ⟨h_g, h_a, h_k, h_c⟩ := h
    have h0 := e_has_word (w := "tie") (xs := [.str g, .str a, .int k, .str c]) (by simp [okF, ok_GG h_g, ok_NN h_a, ok_NN h_c]; decide +kernel) rfl (S := S) (b := false)
    simp [F_is_deed, m_is_deed, slots0, Dd.toU, Dd.toD, h0, freeze, fm, ul, ui, t_FORMS, t_UNLIKE, List.lookup, star1, datS, okW, wipeR, zip8, sizeLine_eq, gAll, bls, i_gaka, n_gaka, p_g h_g, p_a h_a, p_k h_k, p_a h_c]
  case hang g a k h m =>
    obtain ⟨h_g, h_a, h_k, h_h, h_ne, h_m⟩ := h
    have h0 := e_has_word (w := "hang") (xs := [.str g, .str a, .int k, .str h]) (by simp [okF, ok_GG h_g, ok_NN h_a, ok_GG h_h]; decide +kernel) rfl (S := S) (b := false)
    simp [F_is_deed, m_is_deed, slots0, Dd.toU, Dd.toD, h0, freeze, fm, ul, ui, t_FORMS, t_UNLIKE, List.lookup, star1, datS, okW, wipeR, zip8, sizeLine_eq, gAll, bls, i_gakg, n_gakg, p_g h_g, p_a h_a, p_k h_k, p_g h_h, h_ne]
  case get a g b k =>
    obtain ⟨h_a, h_g, h_b, h_k⟩ := h
    have h0 := e_has_word (w := "get") (xs := [.str a, .str g, .str b, .int k]) (by simp [okF, ok_NN h_a, ok_GG h_g, ok_NN h_b]; decide +kernel) rfl (S := S) (b := false)
    simp [F_is_deed, m_is_deed, slots0, Dd.toU, Dd.toD, h0, freeze, fm, ul, ui, t_FORMS, t_UNLIKE, List.lookup, star1, datS, okW, wipeR, zip8, sizeLine_eq, gAll, bls, i_agak, n_agak, p_a h_a, p_g h_g, p_a h_b, p_k h_k]
  case sort a g b k =>
    obtain ⟨h_a, h_g, h_b, h_k⟩ := h
    have h0 := e_has_word (w := "sort") (xs := [.str a, .str g, .str b, .int k]) (by simp [okF, ok_NN h_a, ok_GG h_g, ok_NN h_b]; decide +kernel) rfl (S := S) (b := false)
    simp [F_is_deed, m_is_deed, slots0, Dd.toU, Dd.toD, h0, freeze, fm, ul, ui, t_FORMS, t_UNLIKE, List.lookup, star1, datS, okW, wipeR, zip8, sizeLine_eq, gAll, bls, i_agak, n_agak, p_a h_a, p_g h_g, p_a h_b, p_k h_k]
  case pick g h a k m =>
    obtain ⟨h_g, h_h, h_a, h_k, h_m⟩ := h
    have h0 := e_has_word (w := "pick") (xs := [.str g, .str h, .str a, .int k]) (by simp [okF, ok_GG h_g, ok_GG h_h, ok_NN h_a]; decide +kernel) rfl (S := S) (b := false)
    simp [F_is_deed, m_is_deed, slots0, Dd.toU, Dd.toD, h0, freeze, fm, ul, ui, t_FORMS, t_UNLIKE, List.lookup, star1, datS, okW, wipeR, zip8, sizeLine_eq, gAll, bls, i_ggak, n_ggak, p_g h_g, p_g h_h, p_a h_a, p_k h_k]
  case send s g m =>
    obtain ⟨h_s, h_g, h_m⟩ := h
    have h5 : inn s 0 5 = true := in5 (by rcases h_s with h | h <;> subst h <;> decide)
    have h0 := e_has_word (w := "send") (xs := [.int s, .str g]) (by simp [okF, ok_GG h_g]; decide +kernel) rfl (S := S) (b := false)
    simp [F_is_deed, m_is_deed, slots0, Dd.toU, Dd.toD, h0, freeze, fm, ul, ui, t_FORMS, t_UNLIKE, List.lookup, star1, datS, okW, wipeR, zip8, sizeLine_eq, gAll, bls, i_sg, n_sg, p_s h5, p_g h_g]
  case take g t =>
    obtain ⟨h_g, h_t⟩ := h
    have h5 : inn t 0 5 = true := in5 (by rcases h_t with h | h <;> subst h <;> decide)
    have h0 := e_has_word (w := "take") (xs := [.str g, .int t]) (by simp [okF, ok_GG h_g]; decide +kernel) rfl (S := S) (b := false)
    simp [F_is_deed, m_is_deed, slots0, Dd.toU, Dd.toD, h0, freeze, fm, ul, ui, t_FORMS, t_UNLIKE, List.lookup, star1, datS, okW, wipeR, zip8, sizeLine_eq, gAll, bls, i_gt, n_gt, p_g h_g, p_t h5]
  case tell a =>
    have h_a := h
    have h0 := e_has_word (w := "tell") (xs := [.str a]) (by simp [okF, ok_NN h_a]; decide +kernel) rfl (S := S) (b := false)
    simp [F_is_deed, m_is_deed, slots0, Dd.toU, Dd.toD, h0, freeze, fm, ul, ui, t_FORMS, t_UNLIKE, List.lookup, star1, datS, okW, wipeR, zip8, sizeLine_eq, gAll, bls, i_a, n_a, p_a h_a]
  case shw g =>
    have h_g := h
    have h0 := e_has_word (w := "show") (xs := [.str g]) (by simp [okF, ok_GG h_g]; decide +kernel) rfl (S := S) (b := false)
    simp [F_is_deed, m_is_deed, slots0, Dd.toU, Dd.toD, h0, freeze, fm, ul, ui, t_FORMS, t_UNLIKE, List.lookup, star1, datS, okW, wipeR, zip8, sizeLine_eq, gAll, bls, i_g, n_g, p_g h_g]
  case test a => cases ht
theorem in_marked {d : Dd} : gIn G S (.str (match d.toD with | .tup (.str w :: _) => w | _ => "")) c_MARKED = some (.bl d.sp.isSome) := by
  cases d <;> rfl
theorem in_marks {m : Str} (h : m ∈ MM) : gIn G S (.str m) c_MARKS = some (.bl true) := by
  simp only [MM, List.mem_cons, List.not_mem_nil, or_false] at h
  rcases h with h | h <;> subst h <;> rfl
theorem in_blocked {d : Dd} : gNotIn G S (.str (match d.toD with | .tup (.str w :: _) => w | _ => "")) c_BLOCKED = some (.bl true) := by
  cases d <;> rfl
theorem okF_D {d : Dd} (h : d.wf) : ∃ x xs, d.toD = .tup (x :: xs) ∧ (x :: xs).all okF = true := by
  cases d <;> refine ⟨_, _, rfl, ?_⟩ <;> simp only [Dd.wf] at h
  case num a n => simp [okF, ok_NN h.1]; decide +kernel
  case sum a b o c => simp [okF, ok_NN h.1, ok_NN h.2.1, ok_OO h.2.2.1, ok_NN h.2.2.2]; decide +kernel
  case new g => simp [okF, ok_GG h]; decide +kernel
  case lt g h' m => simp [okF, ok_GG h.1, ok_GG h.2.1, ok_MM h.2.2.2]; decide +kernel
  case add g a => simp [okF, ok_GG h.1, ok_NN h.2]; decide +kernel
  case put g a k c => simp [okF, ok_GG h.1, ok_NN h.2.1, ok_NN h.2.2.2]; decide +kernel
  case tie g a k c => simp [okF, ok_GG h.1, ok_NN h.2.1, ok_NN h.2.2.2]; decide +kernel
  case hang g a k h' m => simp [okF, ok_GG h.1, ok_NN h.2.1, ok_GG h.2.2.2.1, ok_MM h.2.2.2.2.2]; decide +kernel
  case get a g b k => simp [okF, ok_NN h.1, ok_GG h.2.1, ok_NN h.2.2.1]; decide +kernel
  case sort a g b k => simp [okF, ok_NN h.1, ok_GG h.2.1, ok_NN h.2.2.1]; decide +kernel
  case pick g h' a k m => simp [okF, ok_GG h.1, ok_GG h.2.1, ok_NN h.2.2.1, ok_MM h.2.2.2.2]; decide +kernel
  case send s g m => simp [okF, ok_GG h.2.1, ok_MM h.2.2]; decide +kernel
  case take g t => simp [okF, ok_GG h.1]; decide +kernel
  case tell a => simp [okF, ok_NN h]; decide +kernel
  case shw g => simp [okF, ok_GG h]; decide +kernel
  case test a => simp [okF, ok_NN h]; decide +kernel
theorem e_is_row_deed (d : Dd) (h : d.wf) : F_is_row_deed [.non, .int 0, d.toD] S b = .ok (.d (.bl true)) S := by
  obtain ⟨x, xs, e, ho⟩ := okF_D h
  have h0 := eqs_flat0 (S := S) ho
  rw [← e] at h0
  cases ht : d.isT with
  | true =>
    cases d <;> first | (cases ht; done) | skip
    rename_i a
    simp only [Dd.toD] at h0
    simp [F_is_row_deed, m_is_row_deed, slots0, Dd.toD, h0, gIsI, isD, tyD, subTy, sizeLine_eq, e_is_number_name h, freeze]
  | false =>
    have h1 := e_is_deed (S := S) (b := false) d h ht
    have h2 := in_marked (S := S) (d := d)
    have h3 := in_blocked (S := S) (d := d)
    cases d <;> simp only [Dd.toD, Dd.sp, Dd.toU, Option.isSome] at h0 h1 h2 h3
    case test a => cases ht
    case lt g h' m =>
      have h4 := in_marks (S := S) h.2.2.2
      simp [F_is_row_deed, m_is_row_deed, slots0, Dd.toD, h0, h1, h2, h4, gIsI, isD, tyD, subTy, sizeLine_eq, freeze]
    case hang g a k h' m =>
      have h4 := in_marks (S := S) h.2.2.2.2.2
      simp [F_is_row_deed, m_is_row_deed, slots0, Dd.toD, h0, h1, h2, h4, gIsI, isD, tyD, subTy, sizeLine_eq, freeze]
    case pick g h' a k m =>
      have h4 := in_marks (S := S) h.2.2.2.2
      simp [F_is_row_deed, m_is_row_deed, slots0, Dd.toD, h0, h1, h2, h4, gIsI, isD, tyD, subTy, sizeLine_eq, freeze]
    case send s g m =>
      have h4 := in_marks (S := S) h.2.2
      simp [F_is_row_deed, m_is_row_deed, slots0, Dd.toD, h0, h1, h2, h4, gIsI, isD, tyD, subTy, sizeLine_eq, freeze]
    all_goals simp [F_is_row_deed, m_is_row_deed, slots0, Dd.toD, h0, h1, h2, h3, gIsI, isD, tyD, subTy, sizeLine_eq, freeze]
end
end K90

set_option maxHeartbeats 1000000
namespace K90
open PySem PySem.Spec Fy
/-! ### rows -/
structure Rw where
  d : Dd
  nx : List Int
instance : Inhabited Rw := ⟨⟨.new "", []⟩⟩
def rowD (r : Rw) : Fy.D := .tup [r.d.toD, dI r.nx]
def rowsD (rs : List Rw) : Fy.D := .tup (rs.map rowD)
structure RowOk (n : Nat) (r : Rw) : Prop where
  wf : r.d.wf
  l : r.nx.length = if r.d.isT then 2 else 1
  a : ∀ y ∈ r.nx, inn y (-1) (n - 1) = true
structure RowsOk (rs : List Rw) : Prop where
  l : rs.length ≤ 40
  a : ∀ r ∈ rs, RowOk rs.length r
def Dd.word : Dd → Str
  | .num _ _ => "num" | .sum _ _ _ _ => "sum" | .new _ => "new" | .lt _ _ _ => "let" | .add _ _ => "add" | .put _ _ _ _ => "put" | .tie _ _ _ _ => "tie"
  | .hang _ _ _ _ _ => "hang" | .get _ _ _ _ => "get" | .sort _ _ _ _ => "sort" | .pick _ _ _ _ _ => "pick" | .send _ _ _ => "send" | .take _ _ => "take"
  | .tell _ => "tell" | .shw _ => "show" | .test _ => "test"
section
variable {S : List I8} {b : Bool}
theorem word_ix (d : Dd) : gIx G S d.toD (.int 0) = some (.str d.word) := by cases d <;> simp [Dd.toD, Dd.word]
theorem word_test (d : Dd) : decide (d.word = "test") = d.isT := by cases d <;> simp [Dd.word, Dd.isT]
theorem tup_isI {xs : List Fy.D} : gIsI "tuple" S (.tup xs) = some (.bl true) := rfl
theorem gBool (c : Bool) : gInt S (.bl c) = some (.int (if c then 1 else 0)) := rfl
theorem e_is_row {n : Nat} {r : Rw} (h : RowOk n r) : F_is_row [.non, .int 0, .int n, rowD r] S b = .ok (.d (.bl true)) S := by
  have hl : r.nx.length ≤ 2 := by rw [h.l]; split <;> omega
  have h1 := tn_map (g := gset 6) (t := tyes) (e := mcall 3 F_is_within (mcons (mvar 6) (mcons (mret c_END) (mcons (mbin gSub (mvar 2) (mret (.int 1))) mnil)))) (vs := [6])
    (q0 := ⟨[some (.d .non), some (.d (.int 0)), some (.d (.int n)), some (.d (rowD r)), some (.d r.d.toD), some (.d (dI r.nx)), none], S, b⟩) .int (fun _ => true) (fun i => .bl (inn i (-1) (n - 1))) r.nx [] (fun i _ => by
      refine ⟨_, rfl, rfl, fun _ => ?_, rfl, rfl, rfl, rfl⟩
      simp [e_is_within, freeze, c_END]) (szn (by simp; omega))
  rw [all_true] at h1
  simp only [List.nil_append] at h1
  have h2 : (r.nx.all fun i => inn i (-1) (n - 1)) = true := List.all_eq_true.mpr h.a
  have e1 := e_is_row_deed (S := S) (b := false) r.d h.wf
  have e2 := word_ix (S := S) r.d
  have e3 := word_test r.d
  have e4 := h.l
  unfold rowD at h1 ⊢
  simp [F_is_row, m_is_row, slots0, tup_isI, e1, freeze, e2, isT_dI, len_dI, gBool, it_dI, okW, datS, wipeR, h1, gAll_bls, h2, e3]
  rw [e4]
  cases r.d.isT <;> simp [it_dI, h1, gAll_bls, h2, datS, okW, wipeR]
theorem e_are_rows {rs : List Rw} (h : RowsOk rs) : F_are_rows [.non, .int 0, rowsD rs] S b = .ok (.d (.bl true)) S := by
  have hl := h.l
  have h1 := tn_map (g := gset 3) (t := tyes) (e := mcall 4 F_is_row (mcons (mvar 0) (mcons (mvar 1) (mcons (m1 gLen (mvar 2)) (mcons (mvar 3) mnil))))) (vs := [3])
    (q0 := ⟨[some (.d .non), some (.d (.int 0)), some (.d (rowsD rs)), none], S, b⟩) rowD (fun _ => true) (fun _ => .bl true) rs [] (fun r hr => by
      refine ⟨_, rfl, rfl, fun _ => ?_, rfl, rfl, rfl, rfl⟩
      simp [e_is_row (h.a r hr), freeze, rowsD]) (szn (by simp; omega))
  rw [all_true] at h1
  simp only [List.nil_append] at h1
  have hd : decide (40 < (rs.length : Int)) = false := decide_eq_false (by omega)
  unfold rowsD at h1 ⊢
  simp [F_are_rows, m_are_rows, slots0, tup_isI, c_MOST_STATEMENTS, okW, datS, wipeR, h1, gAll_bls, hd]
/-! the numbers of channels -/
def isI (d : Fy.D) : Bool := match d with
  | .int _ => true
  | _ => false
def Dd.tl (d : Dd) : List Fy.D := match d.toD with
  | .tup xs => xs.tail
  | _ => []
def endsOf (rs : List Rw) (w : Str) : List Fy.D := (rs.filter fun r => decide (r.d.word = w)).flatMap fun r => r.d.tl.filter isI
theorem tl_sl (d : Dd) : gSl (some 1) none S d.toD = some (.tup d.tl) := by cases d <;> simp [Dd.toD, Dd.tl]
theorem tl_isI (d : Dd) : ∀ y ∈ d.tl, gIsI "int" S y = some (.bl (isI y)) := by cases d <;> simp [Dd.tl, Dd.toD, gIsI, isD, tyD, subTy, isI]
theorem tl_len (d : Dd) : d.tl.length ≤ 5 := by cases d <;> simp [Dd.tl, Dd.toD]
theorem e_ends_in {rs : List Rw} (hl : rs.length ≤ 40) (w : Str) : F_ends_in [rowsD rs, .str w] S b = .ok (.d (.lst (endsOf rs w))) S := by
  have h1 := tn2_map (g := gtup 2 (gcons (gset 2) (gcons (gset 3) gnil))) (t := mtb (mbin gEq (mbin (gIx G) (mvar 2) (mret (.int 0))) (mvar 1))) (it1 := isrc (msl (mvar 2) (some (mret (.int 1))) none)) (g1 := gset 4) (t1 := mtb (m1 (gIsI "int") (mvar 4))) (e := mvar 4) (vs := [2, 3, 4]) (vs1 := [4])
    (q0 := ⟨[some (.d (rowsD rs)), some (.d (.str w)), none, none, none], S, b⟩) rowD (fun r => r.d.tl) id (fun r => decide (r.d.word = w)) (fun _ y => isI y) (fun _ y => y) rs [] (fun r hr => by
      refine ⟨_, rfl, ?_, rfl, rfl, rfl, rfl, fun _ => ⟨?_, rfl, rfl, rfl, fun y hy => ⟨_, rfl, ?_, fun _ => rfl, rfl, rfl, rfl, rfl⟩⟩⟩
      · have := word_ix (S := S) r.d
        simp [this]
      · have := tl_sl (S := S) r.d
        simp [this]
      · have := tl_isI (S := S) r.d y hy
        simp [wipeR, this]) (by
      have : ∀ xs : List Rw, (xs.map fun r => r.d.tl.length).sum ≤ 5 * xs.length := by
        intro xs
        induction xs with
        | nil => simp
        | cons x xs ih => rw [List.map_cons, List.sum_cons, List.length_cons]; have := tl_len x.d; omega
      have := this rs
      rw [sizeLine_eq]; simp; omega)
  simp only [List.nil_append, List.map_id] at h1
  unfold rowsD at h1 ⊢
  simp [F_ends_in, m_ends_in, slots0, okW, datS, wipeR, x_mlc2, h1, endsOf]
end
end K90

set_option maxHeartbeats 1000000
namespace K90
open PySem PySem.Spec Fy
section
variable {S : List I8} {b : Bool}
theorem ends_send {rs : List Rw} (h : RowsOk rs) : ∀ y ∈ endsOf rs "send", y = .int 0 ∨ y = .int 3 := by
  intro y hy
  obtain ⟨r, hr, hy⟩ := List.mem_flatMap.mp hy
  obtain ⟨hr, hw⟩ := List.mem_filter.mp hr
  obtain ⟨hy, hi⟩ := List.mem_filter.mp hy
  have wf := (h.a r hr).wf
  obtain ⟨d, nx⟩ := r
  cases d <;> simp [Dd.word] at hw
  simp [Dd.tl, Dd.toD] at hy
  rcases hy with rfl | rfl | rfl <;> simp [isI] at hi
  rcases wf.1 with h | h <;> simp [h]
theorem ends_take {rs : List Rw} (h : RowsOk rs) : ∀ y ∈ endsOf rs "take", y = .int 1 ∨ y = .int 5 := by
  intro y hy
  obtain ⟨r, hr, hy⟩ := List.mem_flatMap.mp hy
  obtain ⟨hr, hw⟩ := List.mem_filter.mp hr
  obtain ⟨hy, hi⟩ := List.mem_filter.mp hy
  have wf := (h.a r hr).wf
  obtain ⟨d, nx⟩ := r
  cases d <;> simp [Dd.word] at hw
  simp [Dd.tl, Dd.toD] at hy
  rcases hy with rfl | rfl <;> simp [isI] at hi
  rcases wf.2 with h | h <;> simp [h]
theorem ends_len {rs : List Rw} (w : Str) : (endsOf rs w).length ≤ 5 * rs.length := by
  unfold endsOf
  induction rs with
  | nil => simp
  | cons x xs ih =>
    rw [List.filter_cons]
    have := tl_len x.d
    have := List.length_filter_le isI x.d.tl
    split
    · rw [List.flatMap_cons, List.length_append, List.length_cons]; omega
    · rw [List.length_cons]; omega
theorem e_need_rows {rs : List Rw} (h : RowsOk rs) : F_need_rows [rowsD rs] S b = .ok (.d .non) S := by
  have hl := h.l
  have h0 := e_are_rows (S := S) (b := false) h
  have h2 := e_ends_in (S := S) (b := false) hl "send"
  have h3 := e_ends_in (S := S) (b := false) hl "take"
  have hn : ∀ y ∈ endsOf rs "send", gIn G S y (.lst (endsOf rs "take")) = some (.bl false) := by
    intro y hy
    have hf : (endsOf rs "take").all flatD = true := List.all_eq_true.mpr fun z hz => by rcases ends_take h z hz with e | e <;> subst e <;> rfl
    have hi : inF y (endsOf rs "take") = false := by
      unfold inF
      rw [List.any_eq_false]
      intro z hz
      rcases ends_take h z hz with e | e <;> rcases ends_send h y hy with e' | e' <;> subst e <;> subst e' <;> simp [eqF]
    have hy2 : flatD y = true := by rcases ends_send h y hy with e' | e' <;> subst e' <;> rfl
    simp [gIn, dIn, hf, hi, hy2]
  have h1 := tn_map (g := gset 1) (t := tyes) (e := mbin (gIn G) (mvar 1) (mcall 2 F_ends_in (mcons (mvar 0) (mcons (mret (.str "take")) mnil)))) (vs := [1])
    (q0 := ⟨[some (.d (rowsD rs)), none], S, b⟩) id (fun _ => true) (fun _ => .bl false) (endsOf rs "send") [] (fun y hy => by
      refine ⟨_, rfl, rfl, fun _ => ?_, rfl, rfl, rfl, rfl⟩
      simp [h3, freeze, hn y hy]) (szn (by have := ends_len (rs := rs) "send"; simp; omega))
  rw [all_true] at h1
  simp only [List.nil_append, List.map_id] at h1
  have ha : gAny S (.lst ((endsOf rs "send").map fun _ => .bl false)) = some (.bl false) := by
    rw [gAny_bls (fun _ => false)]
    simp
  unfold rowsD at *
  simp [F_need_rows, m_need_rows, slots0, h0, h2, freeze, okW, datS, wipeR, h1, ha]

/-! ### cases -/
theorem tnS_ints {g : GT} {t : Q8 → Out Bool} {e : M8} {vs : List Nat} {q0 : Q8} (P : Int → Bool) : ∀ (xs acc : List Int), (∀ x ∈ xs, ∃ q2, g (.int x) q0 = some q2 ∧ t q2 = .ok (P x) q2 ∧ e q2 = .ok (.int x) q2 ∧ okW q2.r vs = true ∧ wipeR q2.r vs = q0.r ∧ q2.s = q0.s ∧ q2.w = q0.w) →
    acc.length + xs.length < 60 → tnL g t (stS e) vs (xs.map .int) acc q0 = .ok (ext acc (xs.filter P)) q0
  | [], acc, _, _ => by simp [ext]
  | x :: xs, acc, h, hl => by
    obtain ⟨q2, hg, ht, he, ho, hr, hs, hw⟩ := h x (by simp)
    have eq : (⟨wipeR q2.r vs, q2.s, q2.w⟩ : Q8) = q0 := by rw [hr, hs, hw]
    rw [List.length_cons] at hl
    have hp := (put1_len acc x).2
    have ih := tnS_ints (g := g) (t := t) (e := e) (vs := vs) (q0 := q0) P xs
    rw [List.map_cons, x_tnCons, hg]
    dsimp only
    rw [ht]
    cases hP : P x with
    | false =>
      dsimp only
      rw [if_pos ho, eq, ih acc (fun d hd => h d (List.mem_cons_of_mem _ hd)) (by omega), List.filter_cons_of_neg (by simp [hP])]
    | true =>
      dsimp only
      rw [x_stS, he]
      dsimp only
      rw [if_pos (by omega)]
      dsimp only
      rw [if_pos ho, eq, ih _ (fun d hd => h d (List.mem_cons_of_mem _ hd)) (by unfold put1 at hp; omega), List.filter_cons_of_pos (by simp [hP])]
      rfl
def behind (r : Rw) (x : Str) : List Int := if r.d.fl = some x then [] else srt (ext [] (r.nx.filter fun i => decide (0 ≤ i)))
theorem fl_ok {d : Dd} {x : Str} (h : d.wf) (e : d.fl = some x) : x ∈ GG := by
  cases d <;> simp [Dd.fl] at e <;> subst e
  · exact h
  · exact h.1
  · exact h.1
  · exact h.1
theorem eq_fl {d : Dd} {x : Str} (hx : PyData.strOk x = true) : gEq S (optD d.fl) (.str x) = some (.bl (decide (d.fl = some x))) := by
  cases d.fl with
  | some y => simp [optD]
  | none =>
    unfold gEq
    show ((if SeqAt.shaped (py .non) && SeqAt.shaped (py (.str x)) then some (PyData.eqv (py .non) (py (.str x))) else none).map Fy.D.bl) = _
    have : SeqAt.shaped (py (.str x)) = true := by
      unfold SeqAt.shaped
      simp only [py, PyData.canLay0, hx, PyData.depth]
      rfl
    rw [this, show SeqAt.shaped (py .non) = true from rfl]
    rfl
theorem tuple_l {xs : List Fy.D} : gTuple S (.lst xs) = some (.tup xs) := rfl
theorem e_rows_behind {n : Nat} {r : Rw} {x : Str} (h : RowOk n r) (hx : x ∈ GG) : F_rows_behind [rowD r, .str x] S b = .ok (.d (dI (behind r x))) S := by
  have hl : r.nx.length ≤ 2 := by rw [h.l]; split <;> omega
  have h1 := tnS_ints (g := gset 4) (t := mtb (mbin gGe (mvar 4) (mret (.int 0)))) (e := mvar 4) (vs := [4])
    (q0 := ⟨[some (.d (rowD r)), some (.d (.str x)), some (.d r.d.toD), some (.d (dI r.nx)), none], S, b⟩) (fun i => decide (0 ≤ i)) r.nx [] (fun y _ => by
      refine ⟨_, rfl, ?_, rfl, rfl, rfl, rfl, rfl⟩
      simp) (by simp; omega)
  have h2 := e_filled_by (S := S) (b := false) r.d
  have h3 := eq_fl (S := S) (d := r.d) (ok_GG hx)
  unfold rowD at h1 ⊢
  unfold behind
  simp only [F_rows_behind, m_rows_behind, x_run, x_sseq, x_sasg, x_mvar, slots0]
  by_cases hf : r.d.fl = some x
  · rw [decide_eq_true hf] at h3
    simp [datS, h2, freeze, h3, sizeLine_eq]
    simp [hf]
    rfl
  · rw [decide_eq_false hf] at h3
    simp [datS, h2, freeze, h3, sizeLine_eq, x_msset, it_dI, okW, wipeR, h1, tuple_l]
    simp [hf]
    rfl
end
end K90

set_option maxHeartbeats 1000000
namespace K90
open PySem PySem.Spec Fy
section
variable {S : List I8} {b : Bool}
theorem inF_strs (y : Str) : ∀ ns : List Str, inF (.str y) (ns.map Fy.D.str) = decide (y ∈ ns)
  | [] => rfl
  | n :: ns => by
    have ih := inF_strs y ns
    unfold inF at ih ⊢
    rw [List.map_cons, List.any_cons, ih]
    show ((n == y) || _) = _
    by_cases h : n = y
    · subst h; simp
    · simp [h, Ne.symm h]
theorem in_strs {y : Str} {ns : List Str} : gIn G S (.str y) (.lst (ns.map .str)) = some (.bl (decide (y ∈ ns))) := by
  have : (ns.map Fy.D.str).all flatD = true := List.all_eq_true.mpr fun z hz => by
    obtain ⟨a, _, e⟩ := List.mem_map.mp hz
    rw [← e]; rfl
  simp only [gIn, dIn, this, inF_strs, flatD]
  rfl
def goalsOf (rs : List Rw) (x : Str) : List Int := (rs.zipIdx.filter fun p => decide (x ∈ p.1.d.us)).map fun p => (p.2 : Int)
def chartOf (rs : List Rw) (x : Str) : List (List Int) := rs.map fun r => behind r x
def rowAt (rs : List Rw) (k : Int) : Rw := rs.getD k.toNat default
theorem rowAt_mem {rs : List Rw} {k : Int} (h : inn k 0 (rs.length - 1) = true) : rowAt rs k ∈ rs := by
  have := inn_iff.mp h
  have hk : k.toNat < rs.length := by omega
  unfold rowAt
  rw [List.getD_eq_getElem?_getD, List.getElem?_eq_getElem hk]
  exact List.getElem_mem hk
theorem ix_rows {rs : List Rw} {k : Int} (h : inn k 0 (rs.length - 1) = true) : gIx G S (rowsD rs) (.int k) = some (rowD (rowAt rs k)) := by
  have := inn_iff.mp h
  have hk : k.toNat < rs.length := by omega
  refine atI_nat this.1 ?_
  unfold rowAt
  rw [List.getElem?_map, List.getD_eq_getElem?_getD, List.getElem?_eq_getElem hk]
  rfl
theorem enum_rows {rs : List Rw} : ((rs.map rowD).zipIdx.map fun p => Fy.D.tup [.int (p.2 : Nat), p.1]) = rs.zipIdx.map fun x : Rw × Nat => Fy.D.tup [.int (x.2 : Nat), rowD x.1] := by
  rw [List.zipIdx_map, List.map_map]
  rfl
theorem enum_src {i : Nat} {rs : List Rw} {q : Q8} (h : q.r[i]? = some (some (.d (rowsD rs)))) : ienum (mvar i) q = .ok (rs.zipIdx.map fun x : Rw × Nat => Fy.D.tup [.int (x.2 : Nat), rowD x.1]) q := by
  rw [x_ienum, x_mvar, h]
  show mop (Option.map _ (some (rs.map rowD))) _ = _
  simp only [Option.map_some, enum_rows, x_some]
theorem rowD_0 {r : Rw} : gIx G S (rowD r) (.int 0) = some r.d.toD := by simp [rowD]
theorem rowD_1 {r : Rw} : gIx G S (rowD r) (.int 1) = some (dI r.nx) := by simp [rowD]
theorem e_case_by {rs : List Rw} {k : Int} {x : Str} (h : RowsOk rs) (hk : inn k 0 (rs.length - 1) = true) (hs : (rowAt rs k).d.sp = some x) (hx : x ∈ GG) :
    F_case_by [rowsD rs, .int k] S b = .ok (.d (.tup [dC (chartOf rs x), dI (behind (rowAt rs k) x), dI (goalsOf rs x)])) S := by
  have hl := h.l
  have h0 := ix_rows (S := S) hk
  have h1 := e_spent_by (S := S) (b := false) _ hs
  have h2 := tn_map (g := gtup 2 (gcons (gset 4) (gcons (gset 5) gnil))) (t := mtb (mbin (gIn G) (mvar 2) (mcall 1 F_used_by (mcons (mbin (gIx G) (mvar 5) (mret (.int 0))) mnil)))) (e := mvar 4) (vs := [4, 5])
    (q0 := ⟨[some (.d (rowsD rs)), some (.d (.int k)), some (.d (.str x)), none, none, none], S, b⟩) (fun p : Rw × Nat => .tup [.int (p.2 : Nat), rowD p.1]) (fun p => decide (x ∈ p.1.d.us)) (fun p => .int (p.2 : Int)) rs.zipIdx [] (fun p _ => by
      refine ⟨_, rfl, ?_, fun _ => rfl, rfl, rfl, rfl, rfl⟩
      simp [rowD_0, e_used_by, freeze, in_strs]) (szn (by simp; omega))
  simp only [List.nil_append] at h2
  have h3 := tn_map (g := gset 5) (t := tyes) (e := mcall 2 F_rows_behind (mcons (mvar 5) (mcons (mvar 2) mnil))) (vs := [5])
    (q0 := ⟨[some (.d (rowsD rs)), some (.d (.int k)), some (.d (.str x)), some (.d (.lst ((rs.zipIdx.filter fun p => decide (x ∈ p.1.d.us)).map fun p => .int (p.2 : Int)))), none, none], S, b⟩) rowD (fun _ => true) (fun r => dI (behind r x)) rs [] (fun r hr => by
      refine ⟨_, rfl, rfl, fun _ => ?_, rfl, rfl, rfl, rfl⟩
      simp [e_rows_behind (h.a r hr) hx, freeze]) (szn (by simp; omega))
  rw [all_true] at h3
  simp only [List.nil_append] at h3
  have h4 := e_rows_behind (S := S) (b := false) (h.a _ (rowAt_mem hk)) hx
  have h5 : itemsD (rowsD rs) = some (rs.map rowD) := rfl
  simp [F_case_by, m_case_by, slots0, h0, rowD_0, h1, freeze, enum_rows, okW, datS, wipeR, h2, h5, h3, h4, tuple_l, sizeLine_eq]
  refine ⟨?_, ?_⟩
  · unfold dC chartOf
    rw [List.map_map]
    rfl
  · unfold dI goalsOf
    rw [List.map_map]
    rfl
/-! ### the case is one -/
theorem ext_nil_len (ns : List Int) : (ext [] ns).length ≤ ns.length := by
  have := ext_len ns []
  simpa using this
theorem behind_len {n : Nat} {r : Rw} {x : Str} (h : RowOk n r) : (behind r x).length ≤ 2 := by
  have hl : r.nx.length ≤ 2 := by rw [h.l]; split <;> omega
  unfold behind
  split
  · simp
  · rw [(srt_perm _).length_eq]
    have := ext_nil_len (r.nx.filter fun i => decide (0 ≤ i))
    have := List.length_filter_le (fun i : Int => decide (0 ≤ i)) r.nx
    omega
theorem behind_mem {r : Rw} {x : Str} {y : Int} : y ∈ behind r x ↔ r.d.fl ≠ some x ∧ y ∈ r.nx ∧ 0 ≤ y := by
  unfold behind
  split
  · rename_i h; simp [h]
  · rename_i h
    rw [srt_mem, ext_mem, List.mem_filter]
    simp [h]
theorem behind_points {n : Nat} {r : Rw} {x : Str} (h : RowOk n r) : points n (behind r x) = true := by
  rw [points_iff]
  refine ⟨fun y hy => ?_, ?_⟩
  · obtain ⟨_, h1, h2⟩ := behind_mem.mp hy
    have := h.a y h1
    unfold inn at this ⊢
    simp only [Bool.and_eq_true, decide_eq_true_eq] at this ⊢
    omega
  · unfold behind
    split
    · rfl
    · exact srt_rising (ext_nodup _ List.nodup_nil)
theorem zipIdx_snd (rs : List Rw) : ∀ n, (rs.zipIdx n).Pairwise fun p q => p.2 < q.2 := by
  induction rs with
  | nil => intro n; exact .nil
  | cons r rs ih =>
    intro n
    rw [List.zipIdx_cons]
    refine List.pairwise_cons.mpr ⟨fun p hp => ?_, ih (n + 1)⟩
    have := List.mem_zipIdx hp
    show n < p.2
    omega
theorem goals_mem {rs : List Rw} {x : Str} {y : Int} : y ∈ goalsOf rs x ↔ inn y 0 (rs.length - 1) = true ∧ x ∈ (rowAt rs y).d.us := by
  unfold goalsOf
  rw [List.mem_map]
  constructor
  · rintro ⟨p, hp, e⟩
    obtain ⟨h1, h2⟩ := List.mem_filter.mp hp
    have h3 := List.mem_zipIdx h1
    have hk : p.2 < rs.length := by omega
    have e2 : rowAt rs y = p.1 := by
      unfold rowAt
      rw [← e, Int.toNat_natCast, List.getD_eq_getElem?_getD, List.getElem?_eq_getElem hk]
      have := h3.2.2
      simp at this
      simp [this]
    refine ⟨inn_iff.mpr ⟨by omega, by omega⟩, ?_⟩
    rw [e2]
    simpa using h2
  · rintro ⟨h1, h2⟩
    have h3 := inn_iff.mp h1
    have hk : y.toNat < rs.length := by omega
    refine ⟨(rowAt rs y, y.toNat), List.mem_filter.mpr ⟨?_, by simpa using h2⟩, Int.toNat_of_nonneg h3.1⟩
    rw [List.mem_zipIdx_iff_getElem?]
    unfold rowAt
    simp [hk]
theorem goals_points {rs : List Rw} {x : Str} : points rs.length (goalsOf rs x) = true := by
  rw [points_iff]
  refine ⟨fun y hy => (goals_mem.mp hy).1, rising_of ?_⟩
  unfold goalsOf
  rw [List.pairwise_map]
  exact ((zipIdx_snd rs 0).filter _).imp fun h => by omega
theorem case_ok {rs : List Rw} {k : Int} {x : Str} (h : RowsOk rs) (hk : inn k 0 (rs.length - 1) = true) : Case (chartOf rs x) (behind (rowAt rs k) x) (goalsOf rs x) := by
  have hl := h.l
  have el : (chartOf rs x).length = rs.length := by unfold chartOf; rw [List.length_map]
  refine ⟨⟨by omega, fun ns hn => ?_⟩, ?_, ?_, ?_, ?_, ?_⟩
  · obtain ⟨r, hr, e⟩ := List.mem_map.mp hn
    rw [← e]
    have := behind_len (x := x) (h.a r hr)
    omega
  · unfold chartOk
    rw [List.all_eq_true]
    intro ns hn
    obtain ⟨r, hr, e⟩ := List.mem_map.mp hn
    rw [← e, el]
    exact behind_points (h.a r hr)
  · have := behind_len (x := x) (h.a _ (rowAt_mem hk)); omega
  · unfold goalsOf
    rw [List.length_map]
    have := List.length_filter_le (fun p : Rw × Nat => decide (x ∈ p.1.d.us)) rs.zipIdx
    rw [List.length_zipIdx] at this
    omega
  · rw [el]; exact behind_points (h.a _ (rowAt_mem hk))
  · rw [el]; exact goals_points
theorem nx_chart {rs : List Rw} {x : Str} {k : Int} (hk : inn k 0 (rs.length - 1) = true) : nx (chartOf rs x) k = behind (rowAt rs k) x := by
  have := inn_iff.mp hk
  have h2 : k.toNat < rs.length := by omega
  unfold nx chartOf rowAt
  rw [List.getD_eq_getElem?_getD, List.getElem?_map, List.getD_eq_getElem?_getD, List.getElem?_eq_getElem h2]
  rfl
end
end K90

set_option maxHeartbeats 1000000
namespace K90
open PySem PySem.Spec Fy
section
variable {S : List I8} {b : Bool}
theorem sp_ok {d : Dd} {x : Str} (h : d.wf) (e : d.sp = some x) : x ∈ GG := by
  cases d <;> simp [Dd.sp] at e <;> subst e
  · exact h.2.1
  · exact h.2.2.2.1
  · exact h.2.1
  · exact h.2.1
theorem in_spent {d : Dd} : gIn G S (.str d.word) c_SPENT = some (.bl d.sp.isSome) := by
  cases d <;> rfl
theorem nin_spent {d : Dd} : gNotIn G S (.str d.word) c_SPENT = some (.bl (!d.sp.isSome)) := by
  cases d <;> rfl
theorem last_mk {d : Dd} {x : Str} (h : d.sp = some x) : gIx G S d.toD (.int (-1)) = some (.str d.mk) := by
  cases d <;> first | (cases h; done) | skip
  all_goals simp [Dd.toD, Dd.mk]
theorem len_rows {rs : List Rw} : gLen S (rowsD rs) = some (.int rs.length) := by simp [rowsD]
theorem e_need_row {rs : List Rw} {k : Int} {x : Str} (hk : inn k 0 (rs.length - 1) = true) (hs : (rowAt rs k).d.sp = some x) : F_need_row [rowsD rs, .int k] S b = .ok (.d .non) S := by
  have h0 := ix_rows (S := S) hk
  have h1 := nin_spent (S := S) (d := (rowAt rs k).d)
  rw [hs] at h1
  simp [F_need_row, m_need_row, slots0, len_rows, e_is_within, hk, freeze, h0, rowD_0, word_ix, h1]
theorem e_case_of {rs : List Rw} {k : Int} {x : Str} (h : RowsOk rs) (hk : inn k 0 (rs.length - 1) = true) (hs : (rowAt rs k).d.sp = some x) :
    F_case_of [rowsD rs, .int k] S b = .ok (.d (.tup [dC (chartOf rs x), dI (behind (rowAt rs k) x), dI (goalsOf rs x)])) S := by
  have hx := sp_ok (h.a _ (rowAt_mem hk)).wf hs
  simp [F_case_of, m_case_of, slots0, e_need_rows h, e_need_row hk hs, e_case_by h hk hs hx, freeze]
open Classical in
noncomputable def ppr (c : List (List Int)) (st gl : List Int) : Fy.D := if h : ∃ d, (∀ S b, F_paper_by [dC c, dI st, dI gl] S b = .ok (.d d) S) ∧ Ppr c st gl d then choose h else .non
theorem ppr_of {c : List (List Int)} {st gl : List Int} (h : Case c st gl) : (∀ S b, F_paper_by [dC c, dI st, dI gl] S b = .ok (.d (ppr c st gl)) S) ∧ Ppr c st gl (ppr c st gl) := by
  have h' : ∃ d, (∀ S b, F_paper_by [dC c, dI st, dI gl] S b = .ok (.d d) S) ∧ Ppr c st gl d := e_paper_by h
  unfold ppr
  rw [dif_pos h']
  exact Classical.choose_spec h'
def spOf (rs : List Rw) (k : Int) : Str := (rowAt rs k).d.sp.getD ""
noncomputable def pp (rs : List Rw) (k : Int) : Fy.D := ppr (chartOf rs (spOf rs k)) (behind (rowAt rs k) (spOf rs k)) (goalsOf rs (spOf rs k))
theorem spOf_eq {rs : List Rw} {k : Int} {x : Str} (hs : (rowAt rs k).d.sp = some x) : spOf rs k = x := by unfold spOf; rw [hs]; rfl
theorem pp_ppr {rs : List Rw} {k : Int} {x : Str} (h : RowsOk rs) (hk : inn k 0 (rs.length - 1) = true) (hs : (rowAt rs k).d.sp = some x) : Ppr (chartOf rs x) (behind (rowAt rs k) x) (goalsOf rs x) (pp rs k) := by
  unfold pp
  rw [spOf_eq hs]
  exact (ppr_of (case_ok h hk)).2
theorem e_paper_by_row {rs : List Rw} {k : Int} {x : Str} (h : RowsOk rs) (hk : inn k 0 (rs.length - 1) = true) (hs : (rowAt rs k).d.sp = some x) : F_paper_by_row [rowsD rs, .int k] S b = .ok (.d (pp rs k)) S := by
  have hx := sp_ok (h.a _ (rowAt_mem hk)).wf hs
  have h1 := (ppr_of (case_ok (x := x) h hk)).1
  have h2 : ppr (chartOf rs x) (behind (rowAt rs k) x) (goalsOf rs x) = pp rs k := by unfold pp; rw [spOf_eq hs]
  rw [h2] at h1
  simp [F_paper_by_row, m_paper_by_row, slots0, e_case_by h hk hs hx, freeze, datS, h1]
theorem e_paper_of {rs : List Rw} {k : Int} {x : Str} (h : RowsOk rs) (hk : inn k 0 (rs.length - 1) = true) (hs : (rowAt rs k).d.sp = some x) : F_paper_of [rowsD rs, .int k] S b = .ok (.d (pp rs k)) S := by
  simp [F_paper_of, m_paper_of, slots0, e_need_rows h, e_need_row hk hs, e_paper_by_row h hk hs, freeze]
def isW : Fy.D → Bool
  | .tup (.str w :: _) => decide (w = "way")
  | _ => false
def part2 : Fy.D → Fy.D
  | .tup (_ :: p :: _) => p
  | _ => .non
theorem ppr_0 {c : List (List Int)} {st gl : List Int} {d : Fy.D} (h : Ppr c st gl d) : ∃ w, gIx G S d (.int 0) = some (.str w) ∧ decide (w = "way") = isW d := by
  cases h with
  | way w _ _ _ => exact ⟨"way", by simp, rfl⟩
  | bar B _ _ _ _ => exact ⟨"bar", by simp, rfl⟩
theorem ppr_1 {c : List (List Int)} {st gl : List Int} {d : Fy.D} (h : Ppr c st gl d) : gIx G S d (.int 1) = some (part2 d) := by
  cases h <;> simp [part2]
def marks (rs : List Rw) : List Int := (rs.zipIdx.filter fun p => p.1.d.sp.isSome).map fun p => (p.2 : Int)
theorem marks_mem {rs : List Rw} {y : Int} : y ∈ marks rs ↔ inn y 0 (rs.length - 1) = true ∧ (rowAt rs y).d.sp.isSome = true := by
  unfold marks
  rw [List.mem_map]
  constructor
  · rintro ⟨p, hp, e⟩
    obtain ⟨h1, h2⟩ := List.mem_filter.mp hp
    have h3 := List.mem_zipIdx h1
    have hk : p.2 < rs.length := by omega
    have e2 : rowAt rs y = p.1 := by
      unfold rowAt
      rw [← e, Int.toNat_natCast, List.getD_eq_getElem?_getD, List.getElem?_eq_getElem hk]
      have := h3.2.2
      simp at this
      simp [this]
    refine ⟨inn_iff.mpr ⟨by omega, by omega⟩, ?_⟩
    rw [e2]
    exact h2
  · rintro ⟨h1, h2⟩
    have h3 := inn_iff.mp h1
    have hk : y.toNat < rs.length := by omega
    refine ⟨(rowAt rs y, y.toNat), List.mem_filter.mpr ⟨?_, h2⟩, Int.toNat_of_nonneg h3.1⟩
    rw [List.mem_zipIdx_iff_getElem?]
    unfold rowAt
    simp [hk]
theorem marks_len {rs : List Rw} : (marks rs).length ≤ rs.length := by
  unfold marks
  rw [List.length_map]
  have := List.length_filter_le (fun p : Rw × Nat => p.1.d.sp.isSome) rs.zipIdx
  rw [List.length_zipIdx] at this
  omega
noncomputable def copies (rs : List Rw) : List Int := (marks rs).filter fun k => isW (pp rs k)
theorem e_copies_by {rs : List Rw} (h : RowsOk rs) : F_copies_by [rowsD rs] S b = .ok (.d (dI (copies rs))) S := by
  have hl := h.l
  have h1 := tn_map (g := gtup 2 (gcons (gset 2) (gcons (gset 3) gnil))) (t := mtb (mbin (gIn G) (mbin (gIx G) (mbin (gIx G) (mvar 3) (mret (.int 0))) (mret (.int 0))) (mret c_SPENT))) (e := mvar 2) (vs := [2, 3])
    (q0 := ⟨[some (.d (rowsD rs)), none, none, none], S, b⟩) (fun p : Rw × Nat => .tup [.int (p.2 : Nat), rowD p.1]) (fun p => p.1.d.sp.isSome) (fun p => .int (p.2 : Int)) rs.zipIdx [] (fun p _ => by
      refine ⟨_, rfl, ?_, fun _ => rfl, rfl, rfl, rfl, rfl⟩
      simp [rowD_0, word_ix, in_spent]) (szn (by simp; omega))
  simp only [List.nil_append] at h1
  have e1 : ((rs.zipIdx.filter fun p => p.1.d.sp.isSome).map fun p => Fy.D.int (p.2 : Int)) = (marks rs).map .int := by unfold marks; rw [List.map_map]; rfl
  rw [e1] at h1
  have h2 := tn_map (g := gset 2) (t := mtb (mbin gEq (mbin (gIx G) (mcall 2 F_paper_by_row (mcons (mvar 0) (mcons (mvar 2) mnil))) (mret (.int 0))) (mret (.str "way")))) (e := mvar 2) (vs := [2])
    (q0 := ⟨[some (.d (rowsD rs)), some (.d (.lst ((marks rs).map .int))), none, none], S, b⟩) .int (fun k => isW (pp rs k)) .int (marks rs) [] (fun k hk => by
      refine ⟨_, rfl, ?_, fun _ => rfl, rfl, rfl, rfl, rfl⟩
      obtain ⟨h3, h4⟩ := marks_mem.mp hk
      obtain ⟨x, hx⟩ := Option.isSome_iff_exists.mp h4
      obtain ⟨w, e2, e3⟩ := ppr_0 (S := S) (pp_ppr h h3 hx)
      simp [e_paper_by_row h h3 hx, freeze, e2, e3]) (szn (by have := marks_len (rs := rs); simp; omega))
  simp only [List.nil_append] at h2
  have h5 : itemsD (rowsD rs) = some (rs.map rowD) := rfl
  simp [F_copies_by, m_copies_by, slots0, h5, enum_rows, okW, datS, wipeR, h1, h2, tuple_l]
  rfl
theorem e_must_copy {rs : List Rw} (h : RowsOk rs) : F_must_copy [rowsD rs] S b = .ok (.d (dI (copies rs))) S := by
  simp [F_must_copy, m_must_copy, slots0, e_need_rows h, e_copies_by h, freeze]
/-! the row that is not safe -/
noncomputable def usf (rs : List Rw) : List Int → Fy.D
  | [] => .non
  | k :: ks => if (rowAt rs k).d.mk = "give" then .tup [.int k, part2 (pp rs k)] else usf rs ks
theorem usf_loop {rs : List Rw} (h : RowsOk rs) : ∀ (ks : List Int) (o : Option T), dat o → (∀ k ∈ ks, k ∈ marks rs) → ∃ o', sforL (gset 1) f1_unsafe_row (ks.map .int) ⟨[some (.d (rowsD rs)), o], S, b⟩ = .ok (match usf rs ks with | .non => .nx | d => .rt (.d d)) ⟨[some (.d (rowsD rs)), o'], S, b⟩
  | [], o, _, _ => ⟨o, rfl⟩
  | k :: ks, o, ho, hk => by
    obtain ⟨h3, h4⟩ := marks_mem.mp (hk k (by simp))
    obtain ⟨x, hx⟩ := Option.isSome_iff_exists.mp h4
    have e1 := ppr_1 (S := S) (pp_ppr h h3 hx)
    have e2 := e_paper_by_row (S := S) (b := false) h h3 hx
    have e3 := last_mk (S := S) hx
    have e4 := ix_rows (S := S) h3
    obtain ⟨o', ih⟩ := usf_loop h ks (some (.d (.int k))) (.inr ⟨_, rfl⟩) fun k' hk' => hk k' (List.mem_cons_of_mem _ hk')
    have hg : gset 1 (.int k) ⟨[some (.d (rowsD rs)), o], S, b⟩ = some ⟨[some (.d (rowsD rs)), some (.d (.int k))], S, b⟩ := by
      rcases ho with rfl | ⟨d, rfl⟩ <;> rfl
    rw [List.map_cons, x_forCons, hg]
    by_cases hm : (rowAt rs k).d.mk = "give"
    · refine ⟨some (.d (.int k)), ?_⟩
      simp [f1_unsafe_row, e4, rowD_0, e3, c_GIVE, hm, e2, freeze, e1, sizeLine_eq, usf]
    · refine ⟨o', ?_⟩
      simp [f1_unsafe_row, e4, rowD_0, e3, c_GIVE, hm, usf]
      exact ih
theorem e_unsafe_row {rs : List Rw} (h : RowsOk rs) : F_unsafe_row [rowsD rs] S b = .ok (.d (usf rs (copies rs))) S := by
  obtain ⟨o', e⟩ := usf_loop (S := S) (b := b) h (copies rs) none (.inl rfl) fun k hk => (List.mem_filter.mp hk).1
  have hr : ∀ ks, usf rs ks = .non ∨ ∃ k, usf rs ks = .tup [.int k, part2 (pp rs k)] := by
    intro ks
    induction ks with
    | nil => exact .inl rfl
    | cons k ks ih =>
      unfold usf
      split
      · exact .inr ⟨k, rfl⟩
      · exact ih
  simp only [F_unsafe_row, m_unsafe_row, x_run, slots0, List.map_cons, List.map_nil, List.length_cons, List.length_nil, List.cons_append, List.nil_append, x_sseq, x_sfor, x_isrc]
  have e0 := e_copies_by (S := S) (b := false) h
  rcases hr (copies rs) with hu | ⟨k, hu⟩ <;> rw [hu] at e ⊢ <;> simp [e0, freeze, it_dI, e, List.replicate]
theorem e_unsafe {rs : List Rw} (h : RowsOk rs) : F_unsafe [rowsD rs] S b = .ok (.d (usf rs (copies rs))) S := by
  simp [F_unsafe, m_unsafe, slots0, e_need_rows h, e_unsafe_row h, freeze]
end
end K90

set_option maxHeartbeats 1000000
namespace K90
open PySem PySem.Spec Fy
namespace Dd
def remark (d : Dd) (m : Str) : Dd := match d with
  | lt g h _ => lt g h m
  | hang g a k h _ => hang g a k h m
  | pick g h a k _ => pick g h a k m
  | send s g _ => send s g m
  | d => d
end Dd
theorem rm_fl (d : Dd) (m : Str) : (d.remark m).fl = d.fl := by cases d <;> rfl
theorem rm_us (d : Dd) (m : Str) : (d.remark m).us = d.us := by cases d <;> rfl
theorem rm_sp (d : Dd) (m : Str) : (d.remark m).sp = d.sp := by cases d <;> rfl
theorem rm_isT (d : Dd) (m : Str) : (d.remark m).isT = d.isT := by cases d <;> rfl
theorem rm_wf {d : Dd} {m : Str} (h : d.wf) (hm : m ∈ MM) : (d.remark m).wf := by
  cases d
  case lt => exact ⟨h.1, h.2.1, h.2.2.1, hm⟩
  case hang => exact ⟨h.1, h.2.1, h.2.2.1, h.2.2.2.1, h.2.2.2.2.1, hm⟩
  case pick => exact ⟨h.1, h.2.1, h.2.2.1, h.2.2.2.1, hm⟩
  case send => exact ⟨h.1, h.2.1, hm⟩
  all_goals exact h
theorem rm_mk {d : Dd} {m x : Str} (h : d.sp = some x) : (d.remark m).mk = m := by cases d <;> first | (cases h; done) | rfl
theorem rm_no {d : Dd} {m : Str} (h : d.sp = none) : d.remark m = d := by cases d <;> first | (cases h; done) | rfl
section
variable {S : List I8} {b : Bool}
theorem rm_add {d : Dd} {m x : Str} (h : d.sp = some x) : ∃ u, gSl none (some (-1)) S d.toD = some u ∧ gAdd S u (.tup [.str m]) = some (d.remark m).toD := by
  cases d <;> first | (cases h; done) | skip
  all_goals refine ⟨_, by simp only [Dd.toD, sl_tl]; rfl, ?_⟩
  all_goals simp [Dd.remark, Dd.toD, gAdd, sizeLine_eq]
def mOf (k : Int) (j : Nat) : Str := if (j : Int) = k then "give" else "copy"
def wm (k : Int) (p : Rw × Nat) : Rw := ⟨p.1.d.remark (mOf k p.2), p.1.nx⟩
def withM (rs : List Rw) (k : Int) : List Rw := rs.zipIdx.map (wm k)
theorem in_one {i k : Int} : gIn G S (.int i) (.lst [.int k]) = some (.bl (decide (i = k))) := by
  simp [gIn, dIn, flatD, inF, eqF]
  by_cases h : i = k
  · subst h; simp
  · simp [h, Ne.symm h]
abbrev qM (rs : List Rw) (k : Int) (acc : List Fy.D) (o3 o4 o5 : Option T) (S : List I8) (b : Bool) : Q8 := ⟨[some (.d (rowsD rs)), some (.d (.lst [.int k])), some (.fl acc), o3, o4, o5], S, b⟩
theorem marks_f1 {rs : List Rw} {k : Int} {acc : List Fy.D} {p : Rw × Nat} (hl : acc.length ≤ 500) : ∃ o3 o4 o5, dat o3 ∧ dat o4 ∧ dat o5 ∧
    f1__law_with_marks (qM rs k acc (some (.d (.int (p.2 : Nat)))) (some (.d p.1.d.toD)) (some (.d (dI p.1.nx))) S b) = .ok .nx (qM rs k (acc ++ [rowD (wm k p)]) o3 o4 o5 S b) := by
  have hz : acc.length < sizeLine := by rw [sizeLine_eq]; omega
  have e0 := e_law_marked (S := S) (b := false) p.1.d
  have e1 := in_one (S := S) (i := (p.2 : Nat)) (k := k)
  refine ⟨some (.d (.int (p.2 : Nat))), some (.d (p.1.d.remark (mOf k p.2)).toD), some (.d (dI p.1.nx)), .inr ⟨_, rfl⟩, .inr ⟨_, rfl⟩, .inr ⟨_, rfl⟩, ?_⟩
  cases hs : p.1.d.sp with
  | none =>
    rw [hs] at e0
    simp [f1__law_with_marks, e0, freeze, sizeLine_eq, sapp, own, upd8, wm, rowD, rm_no hs]
    omega
  | some x =>
    rw [hs] at e0
    obtain ⟨u, e2, e3⟩ := rm_add (S := S) (m := mOf k p.2) hs
    unfold mOf at e3
    by_cases hk : ((p.2 : Nat) : Int) = k
    · rw [if_pos hk] at e3
      rw [decide_eq_true hk] at e1
      unfold wm mOf
      rw [if_pos hk]
      simp [f1__law_with_marks, e0, freeze, sizeLine_eq, sapp, own, upd8, rowD, e1, e2, e3]
      omega
    · rw [if_neg hk] at e3
      rw [decide_eq_false hk] at e1
      unfold wm mOf
      rw [if_neg hk]
      simp [f1__law_with_marks, e0, freeze, sizeLine_eq, sapp, own, upd8, rowD, e1, e2, e3]
      omega
theorem marks_for {rs : List Rw} {k : Int} : ∀ (ps : List (Rw × Nat)) (acc : List Fy.D) (o3 o4 o5 : Option T), dat o3 → dat o4 → dat o5 → acc.length + ps.length ≤ 500 → ∃ o3' o4' o5',
    sforL (gtup 2 (gcons (gset 3) (gcons (gtup 2 (gcons (gset 4) (gcons (gset 5) gnil))) gnil))) f1__law_with_marks (ps.map fun p => .tup [.int (p.2 : Nat), rowD p.1]) (qM rs k acc o3 o4 o5 S b) = .ok .nx (qM rs k (acc ++ ps.map fun p => rowD (wm k p)) o3' o4' o5' S b)
  | [], acc, o3, o4, o5, _, _, _, _ => ⟨o3, o4, o5, by simp⟩
  | p :: ps, acc, o3, o4, o5, h3, h4, h5, hl => by
    rw [List.length_cons] at hl
    obtain ⟨a3, a4, a5, g3, g4, g5, e⟩ := marks_f1 (S := S) (b := b) (rs := rs) (k := k) (acc := acc) (p := p) (by omega)
    obtain ⟨o3', o4', o5', ih⟩ := marks_for ps (acc ++ [rowD (wm k p)]) a3 a4 a5 g3 g4 g5 (by rw [List.length_append, List.length_singleton]; omega)
    refine ⟨o3', o4', o5', ?_⟩
    rw [List.map_cons, x_forCons]
    have hg : gtup 2 (gcons (gset 3) (gcons (gtup 2 (gcons (gset 4) (gcons (gset 5) gnil))) gnil)) (.tup [.int (p.2 : Nat), rowD p.1]) (qM rs k acc o3 o4 o5 S b) = some (qM rs k acc (some (.d (.int (p.2 : Nat)))) (some (.d p.1.d.toD)) (some (.d (dI p.1.nx))) S b) := by
      rcases h3 with rfl | ⟨d, rfl⟩ <;> rcases h4 with rfl | ⟨d', rfl⟩ <;> rcases h5 with rfl | ⟨d'', rfl⟩ <;> rfl
    rw [hg]
    dsimp only
    rw [e]
    dsimp only
    rw [ih, List.map_cons, List.append_assoc]
    rfl
theorem e_with_marks {rs : List Rw} {k : Int} (hl : rs.length ≤ 40) : F__law_with_marks [rowsD rs, .lst [.int k]] S b = .ok (.d (rowsD (withM rs k))) S := by
  obtain ⟨o3', o4', o5', e⟩ := marks_for (S := S) (b := b) (rs := rs) (k := k) rs.zipIdx [] none none none (.inl rfl) (.inl rfl) (.inl rfl) (by rw [List.length_zipIdx, List.length_nil]; omega)
  have h5 : itemsD (rowsD rs) = some (rs.map rowD) := rfl
  rw [List.nil_append] at e
  simp [F__law_with_marks, m__law_with_marks, slots0, sizeLine_eq, h5, enum_rows, e, seen, seenT, tuple_l]
  unfold withM rowsD
  rw [List.map_map]
  rfl
end
/-! the same but for the marks -/
theorem wm_zip {k : Int} : ∀ (rs : List Rw) (n : Nat), ((rs.zipIdx n).map (wm k)).zipIdx n = (rs.zipIdx n).map fun p => (wm k p, p.2)
  | [], _ => rfl
  | r :: rs, n => by rw [List.zipIdx_cons, List.map_cons, List.zipIdx_cons, wm_zip rs (n + 1), List.map_cons]
theorem withM_len {rs : List Rw} {k : Int} : (withM rs k).length = rs.length := by unfold withM; rw [List.length_map, List.length_zipIdx]
theorem withM_at {rs : List Rw} {k j : Int} (h : inn j 0 (rs.length - 1) = true) : rowAt (withM rs k) j = ⟨(rowAt rs j).d.remark (mOf k j.toNat), (rowAt rs j).nx⟩ := by
  have h3 := inn_iff.mp h
  have hk : j.toNat < rs.length := by omega
  unfold rowAt withM
  rw [List.getD_eq_getElem?_getD, List.getElem?_map, List.getElem?_zipIdx, List.getD_eq_getElem?_getD, List.getElem?_eq_getElem hk]
  simp [wm]
theorem behind_wm {r : Rw} {m x : Str} : behind ⟨r.d.remark m, r.nx⟩ x = behind r x := by unfold behind; rw [rm_fl]
theorem zip_fst : ∀ (rs : List Rw) (n : Nat), (rs.zipIdx n).map Prod.fst = rs
  | [], _ => rfl
  | r :: rs, n => by rw [List.zipIdx_cons, List.map_cons, zip_fst rs (n + 1)]
theorem chart_wm {rs : List Rw} {k : Int} {x : Str} : chartOf (withM rs k) x = chartOf rs x := by
  unfold chartOf withM
  rw [List.map_map]
  have : (fun r => behind r x) ∘ wm k = (fun r => behind r x) ∘ (Prod.fst : Rw × Nat → Rw) := by
    funext p
    exact behind_wm
  rw [this, ← List.map_map, zip_fst]
theorem goals_wm {rs : List Rw} {k : Int} {x : Str} : goalsOf (withM rs k) x = goalsOf rs x := by
  unfold goalsOf withM
  rw [wm_zip, List.filter_map, List.map_map]
  have : (fun p : Rw × Nat => decide (x ∈ p.1.d.us)) ∘ (fun p : Rw × Nat => (wm k p, p.2)) = fun p => decide (x ∈ p.1.d.us) := by
    funext p
    show decide (x ∈ (p.1.d.remark _).us) = _
    rw [rm_us]
  rw [this]
  rfl
theorem marks_wm {rs : List Rw} {k : Int} : marks (withM rs k) = marks rs := by
  unfold marks withM
  rw [wm_zip, List.filter_map, List.map_map]
  have : (fun p : Rw × Nat => p.1.d.sp.isSome) ∘ (fun p : Rw × Nat => (wm k p, p.2)) = fun p => p.1.d.sp.isSome := by
    funext p
    show (p.1.d.remark _).sp.isSome = _
    rw [rm_sp]
  rw [this]
  rfl
theorem pp_wm {rs : List Rw} {k j : Int} (h : inn j 0 (rs.length - 1) = true) : pp (withM rs k) j = pp rs j := by
  have e : spOf (withM rs k) j = spOf rs j := by unfold spOf; rw [withM_at h]; show ((rowAt rs j).d.remark _).sp.getD _ = _; rw [rm_sp]
  unfold pp
  rw [e, chart_wm, goals_wm, withM_at h, behind_wm]
theorem copies_wm {rs : List Rw} {k : Int} : copies (withM rs k) = copies rs := by
  unfold copies
  rw [marks_wm]
  refine List.filter_congr fun j hj => ?_
  rw [pp_wm (marks_mem.mp hj).1]
theorem usf_wm {rs : List Rw} {k : Int} : ∀ ks : List Int, (∀ j ∈ ks, j ∈ marks rs) → usf (withM rs k) ks = if k ∈ ks then .tup [.int k, part2 (pp rs k)] else .non
  | [], _ => rfl
  | j :: ks, h => by
    obtain ⟨h1, h2⟩ := marks_mem.mp (h j (by simp))
    obtain ⟨x, hx⟩ := Option.isSome_iff_exists.mp h2
    have h3 := inn_iff.mp h1
    have ih := usf_wm (k := k) ks fun i hi => h i (List.mem_cons_of_mem _ hi)
    unfold usf
    rw [withM_at h1, pp_wm h1, ih]
    dsimp only
    rw [rm_mk hx]
    unfold mOf
    by_cases hk : j = k
    · subst hk
      rw [if_pos (Int.toNat_of_nonneg h3.1), if_pos rfl, if_pos (by simp)]
    · have hn : ¬ ((j.toNat : Int) = k) := by omega
      rw [if_neg hn, if_neg (show ¬ (Str.ofString "copy" = Str.ofString "give") by simp)]
      by_cases h4 : k ∈ ks
      · rw [if_pos h4, if_pos (List.mem_cons_of_mem _ h4)]
      · rw [if_neg h4, if_neg (by simp only [List.mem_cons, not_or]; exact ⟨Ne.symm hk, h4⟩)]
theorem withM_ok {rs : List Rw} {k : Int} (h : RowsOk rs) : RowsOk (withM rs k) := by
  refine ⟨by rw [withM_len]; exact h.l, fun r hr => ?_⟩
  obtain ⟨p, hp, e⟩ := List.mem_map.mp hr
  have hm : p.1 ∈ rs := by
    have := List.mem_zipIdx hp
    rw [this.2.2]
    exact List.getElem_mem _
  have ho := h.a _ hm
  subst e
  rw [withM_len]
  refine ⟨rm_wf ho.wf ?_, ?_, ho.a⟩
  · unfold mOf; split <;> decide
  · show p.1.nx.length = if (p.1.d.remark _).isT then 2 else 1
    rw [rm_isT]; exact ho.l
end K90

set_option maxHeartbeats 1000000
namespace K90
open PySem PySem.Spec Fy
section
variable {S : List I8} {b : Bool}
/-! ### the law's own looks -/
inductive Goes (rs : List Rw) (x : Str) : Int → List Int → Int → Prop
  | nil (k : Int) : Goes rs x k [] k
  | cons {k y z : Int} {w : List Int} : inn k 0 (rs.length - 1) = true → y ∈ (rowAt rs k).nx → (rowAt rs k).d.fl ≠ some x → Goes rs x y w z → Goes rs x k (y :: w) z
theorem ne_name {x : Str} (h : x ∈ GG) : x ≠ "" := by
  intro e
  subst e
  exact absurd h (by decide)
theorem fills_eq {d : Dd} {x : Str} (h : x ∈ GG) : decide (d.fl.getD "" = x) = decide (d.fl = some x) := by
  cases d.fl with
  | some y => simp
  | none =>
    have := ne_name h
    simp
    exact fun e => this e.symm
theorem dI_notin {y : Int} {ns : List Int} : gNotIn G S (.int y) (dI ns) = some (.bl (!decide (y ∈ ns))) := by
  unfold gNotIn
  rw [in_ints]
  rfl
theorem way_loop {rs : List Rw} {x : Str} {a d2 : Fy.D} (hx : x ∈ GG) {k z : Int} {w : List Int} (g : Goes rs x k w z) : ∀ (o : Option T), dat o → ∃ o', sforL (gset 5) f1__law_way_right (w.map .int) ⟨[some (.d (rowsD rs)), some (.d a), some (.d d2), some (.d (.str x)), some (.d (.int k)), o], S, b⟩ = .ok .nx ⟨[some (.d (rowsD rs)), some (.d a), some (.d d2), some (.d (.str x)), some (.d (.int z)), o'], S, b⟩ := by
  induction g with
  | nil k => exact fun o _ => ⟨o, rfl⟩
  | cons hk hy hf g ih =>
    rename_i k y z w
    intro o ho
    obtain ⟨o', e⟩ := ih (some (.d (.int y))) (.inr ⟨_, rfl⟩)
    refine ⟨o', ?_⟩
    have hg : gset 5 (.int y) ⟨[some (.d (rowsD rs)), some (.d a), some (.d d2), some (.d (.str x)), some (.d (.int k)), o], S, b⟩ = some ⟨[some (.d (rowsD rs)), some (.d a), some (.d d2), some (.d (.str x)), some (.d (.int k)), some (.d (.int y))], S, b⟩ := by
      rcases ho with rfl | ⟨d, rfl⟩ <;> rfl
    rw [List.map_cons, x_forCons, hg]
    have e0 := ix_rows (S := S) hk
    have e1 := e_law_fills (S := S) (b := false) (rowAt rs k).d
    have e2 := fills_eq (d := (rowAt rs k).d) hx
    have e3 : decide ((rowAt rs k).d.fl = some x) = false := decide_eq_false hf
    rw [e3] at e2
    simp [f1__law_way_right, e0, rowD_0, rowD_1, dI_notin, hy, e1, freeze, e2]
    exact e
theorem goes_of {rs : List Rw} {x : Str} : ∀ {w : List Int} {k : Int}, inn k 0 (rs.length - 1) = true → (∀ y ∈ w, inn y 0 (rs.length - 1) = true) → steps (chartOf rs x) (k :: w) = true → Goes rs x k w ((k :: w).getLastD 0)
  | [], k, _, _, _ => .nil k
  | y :: w, k, hk, ha, h => by
    unfold steps at h
    simp only [List.tail_cons, List.zip_cons_cons, List.all_cons, Bool.and_eq_true, decide_eq_true_eq] at h
    have h1 := h.1
    rw [nx_chart hk] at h1
    obtain ⟨f, m, _⟩ := behind_mem.mp h1
    have ih := goes_of (x := x) (w := w) (ha y (by simp)) (fun z hz => ha z (List.mem_cons_of_mem _ hz)) (by unfold steps; exact h.2)
    exact .cons hk m f (by simpa using ih)
theorem e_way_right {rs : List Rw} {x : Str} {k : Int} {w : List Int} (h : RowsOk rs) (hk : inn k 0 (rs.length - 1) = true) (hs : (rowAt rs k).d.sp = some x) (hw : isWay (chartOf rs x) (behind (rowAt rs k) x) (goalsOf rs x) w = true) :
    F__law_way_right [rowsD rs, .int k, dI w] S b = .ok (.d (.bl true)) S := by
  have hx := sp_ok (h.a _ (rowAt_mem hk)).wf hs
  have el : (chartOf rs x).length = rs.length := by unfold chartOf; rw [List.length_map]
  unfold isWay rowOf at hw
  simp only [Bool.and_eq_true, decide_eq_true_eq] at hw
  rw [el] at hw
  cases w with
  | nil => simp at hw
  | cons y w =>
    have ha := List.all_eq_true.mp hw.1.2.1
    have hy := behind_mem.mp (by simpa using hw.2.1)
    have g : Goes rs x k (y :: w) ((y :: w).getLastD 0) := by
      refine .cons hk hy.2.1 hy.1 ?_
      exact goes_of (ha y (by simp)) (fun z hz => ha z (List.mem_cons_of_mem _ hz)) hw.1.2.2
    have hz0 := hw.2.2
    clear hw
    generalize (y :: w).getLastD 0 = z at g hz0
    obtain ⟨o', e⟩ := way_loop (S := S) (b := b) (a := .int k) (d2 := dI (y :: w)) hx g none (.inl rfl)
    have e0 := ix_rows (S := S) hk
    have e1 := e_law_spends (S := S) (b := false) _ hs
    obtain ⟨hz1, hz2⟩ := goals_mem.mp hz0
    have e2 := ix_rows (S := S) hz1
    obtain ⟨t, e3, e4⟩ := e_law_uses (S := S) (b := false) (rowAt rs z).d
    have e5 := neE_dI (S := S) (w := y :: w)
    have e6 : itemsD (dI (y :: w)) = some ((y :: w).map .int) := rfl
    have e7 := in_strs (S := S) (y := x) (ns := (rowAt rs z).d.us)
    rw [decide_eq_true hz2] at e7
    simp only [F__law_way_right, m__law_way_right, x_run, slots0, List.map_cons, List.map_nil, List.length_cons, List.length_nil, List.cons_append, List.nil_append, x_sseq, x_spar, x_sfor, x_isrc, x_mcons, x_mcall, x_mbin, x_mvar, x_mret, x_mnil]
    simp only [List.map_cons] at e e6
    simp [e0, rowD_0, e1, freeze, e6, e, List.replicate, e5, e2, e3, e4, e7]
theorem items_bar {k : Int} {w : List Int} (hl : w.length ≤ 100) : gAdd S (.tup [.int k]) (dI w) = some (dI (k :: w)) := by
  unfold dI
  simp [gAdd, sizeLine_eq]
  omega
theorem dI_nenil {w : List Int} : gNe S (.lst (w.map .int)) (.lst []) = some (.bl (!w.isEmpty)) := by
  have h1 : SeqAt.shaped (py (.lst (w.map .int))) = true := shaped_ints w
  have h2 : SeqAt.shaped (py (.lst [])) = true := rfl
  unfold gNe
  show ((if SeqAt.shaped (py (.lst (w.map .int))) && SeqAt.shaped (py (.lst [])) then some (PyData.eqv (py (.lst (w.map .int))) (py (.lst []))) else none).map fun c => Fy.D.bl (!c)) = _
  rw [h1, h2]
  cases w <;> rfl
abbrev qB (rs : List Rw) (a : Fy.D) (B : List Int) (x : Str) (o4 o5 : Option T) (S : List I8) (b : Bool) : Q8 := ⟨[some (.d (rowsD rs)), some (.d a), some (.d (dI B)), some (.d (.str x)), o4, o5, none], S, b⟩
theorem bar_loop {rs : List Rw} {x : Str} {a : Fy.D} {B : List Int} (h : RowsOk rs) (hx : x ∈ GG) : ∀ (ks : List Int) (o4 o5 : Option T), dat o4 → dat o5 →
    (∀ k ∈ ks, inn k 0 (rs.length - 1) = true ∧ (k ∈ B → x ∉ (rowAt rs k).d.us) ∧ ((rowAt rs k).d.fl ≠ some x → ∀ y ∈ (rowAt rs k).nx, 0 ≤ y → y ∈ B)) →
    ∃ o4' o5', sforL (gset 4) f1__law_bar_right (ks.map .int) (qB rs a B x o4 o5 S b) = .ok .nx (qB rs a B x o4' o5' S b)
  | [], o4, o5, _, _, _ => ⟨o4, o5, rfl⟩
  | k :: ks, o4, o5, h4, h5, ha => by
    obtain ⟨hk, hu, hf⟩ := ha k (by simp)
    have hr := h.a _ (rowAt_mem hk)
    have hl : (rowAt rs k).nx.length ≤ 2 := by rw [hr.l]; split <;> omega
    have h1 := tn_map (g := gset 6) (t := tand (mtb (mbin gGe (mvar 6) (mret (.int 0)))) (mtb (mbin (gNotIn G) (mvar 6) (mvar 2)))) (e := mvar 6) (vs := [6]) (q0 := qB rs a B x (some (.d (.int k))) o5 S b) .int (fun y => decide (0 ≤ y) && !decide (y ∈ B)) .int (rowAt rs k).nx [] (fun y _ => by
      refine ⟨_, rfl, ?_, fun _ => rfl, rfl, rfl, rfl, rfl⟩
      by_cases hy : 0 ≤ y <;> simp [hy, dI_notin]) (szn (by simp; omega))
    simp only [List.nil_append] at h1
    generalize hL : ((rowAt rs k).nx.filter fun y => decide (0 ≤ y) && !decide (y ∈ B)) = L at h1
    obtain ⟨o4', o5', ih⟩ := bar_loop h hx ks (some (.d (.int k))) (some (.d (.lst (L.map .int)))) (.inr ⟨_, rfl⟩) (.inr ⟨_, rfl⟩) fun k' hk' => ha k' (List.mem_cons_of_mem _ hk')
    refine ⟨o4', o5', ?_⟩
    have hg : gset 4 (.int k) (qB rs a B x o4 o5 S b) = some (qB rs a B x (some (.d (.int k))) o5 S b) := by
      rcases h4 with rfl | ⟨d, rfl⟩ <;> rfl
    rw [List.map_cons, x_forCons, hg]
    have e0 := ix_rows (S := S) hk
    have e1 := e_law_fills (S := S) (b := false) (rowAt rs k).d
    have e2 := fills_eq (d := (rowAt rs k).d) hx
    obtain ⟨t, e3, e4⟩ := e_law_uses (S := S) (b := false) (rowAt rs k).d
    have e5 := in_strs (S := S) (y := x) (ns := (rowAt rs k).d.us)
    have e6 := dI_nenil (S := S) (w := L)
    have hLe : (rowAt rs k).d.fl ≠ some x → L = [] := by
      intro hne
      rw [← hL, List.filter_eq_nil_iff]
      intro y hy
      simp only [Bool.and_eq_true, decide_eq_true_eq, Bool.not_eq_true', decide_eq_false_iff_not, not_and, Classical.not_not]
      exact fun h0 => hf hne y hy h0
    have e8 : gNe S (.str ((rowAt rs k).d.fl.getD "")) (.str x) = some (.bl (!decide ((rowAt rs k).d.fl = some x))) := by
      rw [ne_str, e2]
    have e9 : (if k ∈ B then decide (x ∈ (rowAt rs k).d.us) else false) = false := by
      split
      · rename_i hm; exact decide_eq_false (hu hm)
      · rfl
    by_cases hB : k ∈ B
    · rw [if_pos hB] at e9
      rw [e9] at e5
      by_cases hfl : (rowAt rs k).d.fl = some x
      · rw [decide_eq_true hfl] at e8
        simp [f1__law_bar_right, e0, rowD_0, rowD_1, gIn_dI, hB, e3, e4, e5, it_dI, okW, datS, wipeR, h1, e1, freeze, e8]
        exact ih
      · rw [decide_eq_false hfl] at e8
        rw [hLe hfl] at e6 h1 ih
        simp only [List.map_nil, List.isEmpty_nil, Bool.not_true] at e6 h1 ih
        simp [f1__law_bar_right, e0, rowD_0, rowD_1, gIn_dI, hB, e3, e4, e5, it_dI, okW, datS, wipeR, h1, e1, freeze, e8, e6, sizeLine_eq]
        exact ih
    · by_cases hfl : (rowAt rs k).d.fl = some x
      · rw [decide_eq_true hfl] at e8
        simp [f1__law_bar_right, e0, rowD_0, rowD_1, gIn_dI, hB, it_dI, okW, datS, wipeR, h1, e1, freeze, e8]
        exact ih
      · rw [decide_eq_false hfl] at e8
        rw [hLe hfl] at e6 h1 ih
        simp only [List.map_nil, List.isEmpty_nil, Bool.not_true] at e6 h1 ih
        simp [f1__law_bar_right, e0, rowD_0, rowD_1, gIn_dI, hB, it_dI, okW, datS, wipeR, h1, e1, freeze, e8, e6, sizeLine_eq]
        exact ih
theorem e_bar_right {rs : List Rw} {x : Str} {k : Int} {B : List Int} (h : RowsOk rs) (hk : inn k 0 (rs.length - 1) = true) (hs : (rowAt rs k).d.sp = some x) (hl : B.length ≤ 100) (hB : isBar (chartOf rs x) (behind (rowAt rs k) x) (goalsOf rs x) B = true) :
    F__law_bar_right [rowsD rs, .int k, dI B] S b = .ok (.d (.bl true)) S := by
  have hx := sp_ok (h.a _ (rowAt_mem hk)).wf hs
  have el : (chartOf rs x).length = rs.length := by unfold chartOf; rw [List.length_map]
  unfold isBar at hB
  simp only [Bool.and_eq_true, Bool.not_eq_true'] at hB
  obtain ⟨⟨⟨h1, h2⟩, h3⟩, h4⟩ := hB
  rw [el] at h1
  have h1' := (points_iff.mp h1).1
  rw [List.any_eq_false] at h3
  have h2' : ∀ y ∈ behind (rowAt rs k) x, y ∈ B := fun y hy => by simpa using List.all_eq_true.mp h2 y hy
  have h4' : ∀ z ∈ B, ∀ y ∈ nx (chartOf rs x) z, y ∈ B := fun z hz y hy => by simpa using List.all_eq_true.mp h4 y (List.mem_flatMap.mpr ⟨z, hz, hy⟩)
  have h3' : ∀ z ∈ goalsOf rs x, z ∉ B := fun z hz hm => h3 z hz (decide_eq_true hm)
  obtain ⟨o4', o5', e⟩ := bar_loop (S := S) (b := b) (a := .int k) (B := B) h hx (k :: B) none none (.inl rfl) (.inl rfl) fun z hz => by
    rcases List.mem_cons.mp hz with e | hz
    · subst e
      refine ⟨hk, fun hm hu => h3' z (goals_mem.mpr ⟨hk, hu⟩) hm, fun hf y hy h0 => h2' y (behind_mem.mpr ⟨hf, hy, h0⟩)⟩
    · have hin := h1' z hz
      refine ⟨hin, fun hm hu => h3' z (goals_mem.mpr ⟨hin, hu⟩) hm, fun hf y hy h0 => h4' z hz y ?_⟩
      rw [nx_chart hin]
      exact behind_mem.mpr ⟨hf, hy, h0⟩
  have e0 := ix_rows (S := S) hk
  have e1 := e_law_spends (S := S) (b := false) _ hs
  have e2 := items_bar (S := S) (k := k) hl
  have e6 : itemsD (dI (k :: B)) = some ((k :: B).map .int) := rfl
  simp only [List.map_cons] at e e6
  simp [F__law_bar_right, m__law_bar_right, slots0, e0, rowD_0, e1, freeze, sizeLine_eq, e2, e6, e]
/-! a row -/
theorem eqvAll_ints : ∀ ns : List Int, PyData.eqvAll (pys (ns.map .int)) (pys (ns.map .int)) = true
  | [] => rfl
  | n :: ns => by
    simp only [List.map_cons, pys, py, PyData.eqvAll, PyData.eqv, eqvAll_ints ns]
    simp
theorem pw_eq {w : Str} (hw : PyData.strOk w = true) (ns : List Int) : gNe S (.tup [.str w, dI ns]) (.tup [.str w, dI ns]) = some (.bl false) := by
  have h1 : SeqAt.shaped (py (.tup [.str w, dI ns])) = true := by
    unfold SeqAt.shaped dI
    simp only [py, pys, PyData.canLay0, PyData.canLayAll0, PyData.depth, PyData.depthAll, hw, canLay_ints, depth_ints]
    rfl
  have h2 : PyData.eqv (py (.tup [.str w, dI ns])) (py (.tup [.str w, dI ns])) = true := by
    unfold dI
    simp only [py, pys, PyData.eqv, PyData.eqvAll, eqvAll_ints]
    simp
  unfold gNe
  show ((if SeqAt.shaped (py (.tup [.str w, dI ns])) && SeqAt.shaped (py (.tup [.str w, dI ns])) then some (PyData.eqv (py (.tup [.str w, dI ns])) (py (.tup [.str w, dI ns]))) else none).map fun c => Fy.D.bl (!c)) = _
  rw [h1, h2]
  rfl
theorem ppr_eq {c : List (List Int)} {st gl : List Int} {d : Fy.D} (h : Ppr c st gl d) : gNe S d d = some (.bl false) := by
  cases h with
  | way w _ _ _ => exact pw_eq (by decide +kernel) w
  | bar B _ _ _ _ => exact pw_eq (by decide +kernel) B
theorem looks1 : gNe S (.lst [.bl true, .bl false]) (.lst [.bl true, .bl false]) = some (.bl false) := rfl
theorem looks2 : gNe S (.lst [.bl false, .bl true]) (.lst [.bl false, .bl true]) = some (.bl false) := rfl
theorem nil_eq : gEq S (.lst []) (.lst []) = some (.bl true) := rfl
theorem seen_fl {xs : List Fy.D} {s : List I8} : seen s (.fl xs) = some (.lst xs) := rfl
theorem one_dI {i : Int} : Fy.D.tup [.int i] = dI [i] := rfl
theorem rng_0 {n : Int} : rng 0 n = (List.range n.toNat).map fun i : Nat => Fy.D.int (0 + i) := by unfold rng; simp
theorem filter_no {α : Type} (xs : List α) : xs.filter (fun _ => false) = [] := by rw [List.filter_eq_nil_iff]; simp
theorem rng_ok {n : Nat} (h : n ≤ 1000) : -(2 ^ 62) ≤ (n : Int) ∧ (n : Int) < 2 ^ 62 := ⟨by omega, by omega⟩
theorem range_src {rs : List Rw} {q : Q8} (hl : rs.length ≤ 40) (h : q.r[0]? = some (some (.d (rowsD rs)))) : irange1 (m1 gLen (mvar 0)) q = .ok ((List.range rs.length).map fun i : Nat => .int (0 + (i : Int))) q := by
  have e : m1 gLen (mvar 0) q = .ok (.int (rs.length : Nat)) q := by
    rw [x_m1, x_mvar, h]
    show mop (gLen q.s (rowsD rs)) q = _
    rw [len_rows, x_some]
  rw [x_irange1, e]
  dsimp only
  rw [if_pos (rng_ok (by omega)), rng_0, Int.toNat_natCast]
theorem e_row_right {rs : List Rw} {x : Str} {k : Int} (h : RowsOk rs) (hk : inn k 0 (rs.length - 1) = true) (hs : (rowAt rs k).d.sp = some x) :
    F__law_row_right [rowsD rs, .int k, dI (copies rs)] S b = .ok (.d (.bl true)) S := by
  have hC := case_ok (x := x) h hk
  have hx := sp_ok (h.a _ (rowAt_mem hk)).wf hs
  have hP := pp_ppr h hk hs
  have e0 := e_case_of (S := S) (b := false) h hk hs
  have e1 := e_paper_of (S := S) (b := false) h hk hs
  have e2 : F_paper [dC (chartOf rs x), dI (behind (rowAt rs k) x), dI (goalsOf rs x)] S false = .ok (.d (pp rs k)) S := e_paper hC (by
    have := (ppr_of hC).1
    have h2 : ppr (chartOf rs x) (behind (rowAt rs k) x) (goalsOf rs x) = pp rs k := by unfold pp; rw [spOf_eq hs]
    rw [h2] at this
    exact this)
  have e3 := ppr_eq (S := S) hP
  have hkm : k ∈ marks rs := marks_mem.mpr ⟨hk, by rw [hs]; rfl⟩
  have hkc : k ∈ copies rs ↔ isW (pp rs k) = true := by unfold copies; rw [List.mem_filter]; exact ⟨fun h => h.2, fun h => ⟨hkm, h⟩⟩
  generalize pp rs k = d at hP e1 e2 e3 hkc
  have hl := h.l
  cases hP with
  | way w hlw hw hb =>
    have e4 := e_is_way (S := S) (b := false) hC (w := w) (by omega)
    have e5 := e_is_bar (S := S) (b := false) hC (w := w) (by omega)
    have e6 := e_way_right (S := S) (b := false) h hk hs hw
    rw [hw] at e4
    rw [hb w] at e5
    have hkc2 : k ∈ copies rs := hkc.mpr rfl
    have h1 := tn_map (g := gset 9) (t := mtb (mcall 4 F_is_bar (mcons (mvar 3) (mcons (mvar 4) (mcons (mvar 5) (mcons (mtup (mcons (mvar 9) mnil)) mnil)))))) (e := mvar 9) (vs := [9])
      (q0 := ⟨[some (.d (rowsD rs)), some (.d (.int k)), some (.d (dI (copies rs))), some (.d (dC (chartOf rs x))), some (.d (dI (behind (rowAt rs k) x))), some (.d (dI (goalsOf rs x))), some (.d (.tup [.str "way", dI w])), some (.fl [.bl true, .bl false]), none, none, none], S, b⟩)
      (fun i : Nat => .int (0 + (i : Int))) (fun _ => false) (fun i : Nat => .int (0 + (i : Int))) (List.range rs.length) [] (fun i _ => by
        refine ⟨_, rfl, ?_, fun hp => (Bool.false_ne_true hp).elim, rfl, rfl, rfl, rfl⟩
        have e7 := e_is_bar (S := S) (b := false) hC (w := [0 + (i : Int)]) (by simp)
        rw [hb] at e7
        simp only [Int.zero_add] at e7
        simp [sizeLine_eq, one_dI, e7, freeze]) (szn (by simp; omega))
    rw [filter_no] at h1
    simp only [List.nil_append, List.map_nil] at h1
    simp [-x_irange1, -Int.zero_add, range_src hl, F__law_row_right, m__law_row_right, slots0, e0, freeze, datS, e1, e2, e3, e4, e5, sizeLine_eq, sapp, own, upd8, seen_fl, looks1, e6, okW, wipeR, h1, nil_eq, gIn_dI, hkc2]
  | bar B hlb hb hw hg =>
    have e4 := e_is_way (S := S) (b := false) hC (w := B) (by omega)
    have e5 := e_is_bar (S := S) (b := false) hC (w := B) (by omega)
    have e6 := e_bar_right (S := S) (b := false) h hk hs (by omega) hb
    rw [hw] at e4
    rw [hb] at e5
    have hkc2 : k ∉ copies rs := fun hm => absurd (hkc.mp hm) (by simp [isW])
    have hgl : (goalsOf rs x).length ≤ 100 := hC.lg
    have h1 := tn_map (g := gset 10) (t := mtb (mcall 4 F_is_way (mcons (mvar 3) (mcons (mvar 4) (mcons (mvar 5) (mcons (mtup (mcons (mvar 10) mnil)) mnil)))))) (e := mvar 10) (vs := [10])
      (q0 := ⟨[some (.d (rowsD rs)), some (.d (.int k)), some (.d (dI (copies rs))), some (.d (dC (chartOf rs x))), some (.d (dI (behind (rowAt rs k) x))), some (.d (dI (goalsOf rs x))), some (.d (.tup [.str "bar", dI B])), some (.fl [.bl false, .bl true]), none, none, none], S, b⟩)
      .int (fun _ => false) .int (goalsOf rs x) [] (fun i hi => by
        refine ⟨_, rfl, ?_, fun hp => (Bool.false_ne_true hp).elim, rfl, rfl, rfl, rfl⟩
        have e7 := e_is_way (S := S) (b := false) hC (w := [i]) (by simp)
        rw [hg i hi] at e7
        simp [sizeLine_eq, one_dI, e7, freeze]) (szn (by simp; omega))
    rw [filter_no] at h1
    simp only [List.nil_append, List.map_nil] at h1
    simp [F__law_row_right, m__law_row_right, slots0, e0, freeze, datS, e1, e2, e3, e4, e5, sizeLine_eq, sapp, own, upd8, seen_fl, looks2, e6, it_dI, okW, wipeR, h1, nil_eq, dI_notin, hkc2]
theorem e_alone_right {rs : List Rw} {x : Str} {k : Int} (h : RowsOk rs) (hk : inn k 0 (rs.length - 1) = true) (hs : (rowAt rs k).d.sp = some x) :
    F__law_alone_right [rowsD rs, .int k] S b = .ok (.d (.bl true)) S := by
  have hP := pp_ppr h hk hs
  have e1 := e_paper_of (S := S) (b := false) h hk hs
  have e2 := e_with_marks (S := S) (b := false) (k := k) h.l
  have e3 := e_unsafe (S := S) (b := false) (withM_ok (k := k) h)
  rw [copies_wm, usf_wm (copies rs) (fun j hj => (List.mem_filter.mp hj).1)] at e3
  have hkm : k ∈ marks rs := marks_mem.mpr ⟨hk, by rw [hs]; rfl⟩
  have hkc : k ∈ copies rs ↔ isW (pp rs k) = true := by unfold copies; rw [List.mem_filter]; exact ⟨fun h => h.2, fun h => ⟨hkm, h⟩⟩
  generalize pp rs k = d at hP e1 e3 hkc
  cases hP with
  | way w hlw hw hb =>
    rw [if_pos (hkc.mpr rfl)] at e3
    have e4 : gEq S (.tup [.int k, dI w]) (.tup [.int k, dI w]) = some (.bl true) := by
      have h1 : SeqAt.shaped (py (.tup [.int k, dI w])) = true := by
        unfold SeqAt.shaped dI
        simp only [py, pys, PyData.canLay0, PyData.canLayAll0, PyData.depth, PyData.depthAll, canLay_ints, depth_ints]
        rfl
      have h2 : PyData.eqv (py (.tup [.int k, dI w])) (py (.tup [.int k, dI w])) = true := by
        unfold dI
        simp only [py, pys, PyData.eqv, PyData.eqvAll, eqvAll_ints]
        simp
      unfold gEq
      show ((if SeqAt.shaped (py (.tup [.int k, dI w])) && SeqAt.shaped (py (.tup [.int k, dI w])) then some (PyData.eqv (py (.tup [.int k, dI w])) (py (.tup [.int k, dI w]))) else none).map Fy.D.bl) = _
      rw [h1, h2]
      rfl
    simp [F__law_alone_right, m__law_alone_right, slots0, e1, e2, freeze, sizeLine_eq, e3, part2, e4]
  | bar B hlb hb hw hg =>
    rw [if_neg (fun hm => absurd (hkc.mp hm) (by simp [isW]))] at e3
    simp [F__law_alone_right, m__law_alone_right, slots0, e1, e2, freeze, sizeLine_eq, e3, gIs]
end
end K90

set_option maxHeartbeats 1000000
namespace K90
open PySem PySem.Spec Fy
/-! ### the draws -/
def Bx (S : List I8) (l : Nat) : Prop := ∃ a b c : Int, S[l]? = some (.box (.fl [.int a, .int b, .int c]))
theorem Bx.set {S : List I8} {l : Nat} {a b c : Int} (h : Bx S l) : (S.set l (.box (.fl [.int a, .int b, .int c])))[l]? = some (.box (.fl [.int a, .int b, .int c])) := by
  obtain ⟨_, _, _, e⟩ := h
  have := (List.getElem?_eq_some_iff.mp e).1
  rw [List.getElem?_set_self this]
theorem mul_i {S : List I8} {x y : Int} (h : (-(2 ^ 64) < x ∧ x < 2 ^ 64) ∨ (-(2 ^ 64) < y ∧ y < 2 ^ 64)) : gMul S (.int x) (.int y) = some (.int (x * y)) := by
  unfold gMul
  dsimp only
  rw [if_pos h]
theorem mod_i {S : List I8} {x y : Int} (h : 0 < y) : gMod S (.int x) (.int y) = some (.int (x % y)) := by
  unfold gMod
  dsimp only
  rw [if_pos h]
theorem fdiv_i {S : List I8} {x y : Int} (h : 0 < y) (h2 : y < 1073741824) : gFdiv S (.int x) (.int y) = some (.int (x / y)) := by
  unfold gFdiv
  dsimp only
  rw [if_pos ⟨h, h2⟩]
theorem mod_b {x m : Int} (h : 0 < m) (h2 : m < 2 ^ 64) : -(2 ^ 64) < x % m ∧ x % m < 2 ^ 64 := by
  have h3 := Int.emod_nonneg x (show m ≠ 0 by omega)
  have h4 := Int.emod_lt_of_pos x h
  omega
theorem e_choice {S : List I8} {l : Nat} (hB : Bx S l) {n : Int} (h0 : 0 < n) (h1 : n < 1073741824) : ∃ r S', F__law_choice [.loc l, .int n] S true = .ok (.d (.int r)) S' ∧ 0 ≤ r ∧ r < n ∧ S'.length = S.length ∧ Bx S' l := by
  have hB' := hB
  obtain ⟨a, b, c, e⟩ := hB
  by_cases ha : 0 < a
  · refine ⟨a % n, S.set l (.box (.fl [.int (a / n), .int b, .int c])), ?_, Int.emod_nonneg _ (by omega), Int.emod_lt_of_pos _ h0, by simp, ⟨_, _, _, hB'.set⟩⟩
    simp [F__law_choice, m__law_choice, slots0, seen, seenT, e, ha, mod_i h0, fdiv_i h0 h1, ssub, own, upd8, L2.ixN]
  · have h7 : ∀ {x : Int}, gMod S (.int x) (.int 2147483647) = some (.int (x % 2147483647)) := mod_i (by decide)
    generalize hb' : (b * 48271 + 29 + (c + 1)) % 2147483647 = b'
    have hbb : -(2 ^ 64) < b' ∧ b' < 2 ^ 64 := by rw [← hb']; exact mod_b (by decide) (by decide)
    generalize hm1 : (b' * b' + 39373 * b' + 7) % 2147483629 = m1
    have hmm : -(2 ^ 64) < m1 ∧ m1 < 2 ^ 64 := by rw [← hm1]; exact mod_b (by decide) (by decide)
    generalize hm2 : (m1 * m1 + 50021 * m1) % 2147483587 = m2
    refine ⟨m2 / 8 % n, S.set l (.box (.fl [.int a, .int b', .int (c + 1)])), ?_, Int.emod_nonneg _ (by omega), Int.emod_lt_of_pos _ h0, by simp, ⟨_, _, _, hB'.set⟩⟩
    have s1 : ∀ {x y z : Int}, (S.set l (.box (.fl [.int x, .int y, .int z])))[l]? = some (.box (.fl [.int x, .int y, .int z])) := hB'.set
    have q1 : ∀ {S : List I8}, gMul S (.int b) (.int 48271) = some (.int (b * 48271)) := mul_i (.inr (by decide))
    have q2 : ∀ {S : List I8}, gMul S (.int b') (.int b') = some (.int (b' * b')) := mul_i (.inl hbb)
    have q3 : ∀ {S : List I8}, gMul S (.int 39373) (.int b') = some (.int (39373 * b')) := mul_i (.inl (by decide))
    have q4 : ∀ {S : List I8}, gMul S (.int m1) (.int m1) = some (.int (m1 * m1)) := mul_i (.inl hmm)
    have q5 : ∀ {S : List I8}, gMul S (.int 50021) (.int m1) = some (.int (50021 * m1)) := mul_i (.inl (by decide))
    have q6 : ∀ {S : List I8} {x : Int}, gMod S (.int x) (.int 2147483647) = some (.int (x % 2147483647)) := mod_i (by decide)
    have q7 : ∀ {S : List I8} {x : Int}, gMod S (.int x) (.int 2147483629) = some (.int (x % 2147483629)) := mod_i (by decide)
    have q8 : ∀ {S : List I8} {x : Int}, gMod S (.int x) (.int 2147483587) = some (.int (x % 2147483587)) := mod_i (by decide)
    have q9 : ∀ {S : List I8} {x : Int}, gFdiv S (.int x) (.int 8) = some (.int (x / 8)) := fdiv_i (by decide) (by decide)
    have q10 : ∀ {S : List I8} {x : Int}, gMod S (.int x) (.int n) = some (.int (x % n)) := mod_i h0
    simp [F__law_choice, m__law_choice, slots0, seen, seenT, e, ha, ssub, own, upd8, L2.ixN, s1, q1, q2, q3, q4, q5, q6, q7, q8, q9, q10, hb', hm1, hm2]
end K90

set_option maxHeartbeats 2000000
namespace K90
open PySem PySem.Spec Fy
theorem pkD {xs : List Fy.D} {r : Int} (h0 : 0 ≤ r) (h1 : r < xs.length) : ∃ x ∈ xs, ∀ S, gIx G S (.lst xs) (.int r) = some x := by
  have hk : r.toNat < xs.length := by omega
  exact ⟨xs[r.toNat], List.getElem_mem hk, fun S => atI_nat h0 (List.getElem?_eq_getElem hk)⟩
theorem pkM {α : Type} {f : α → Fy.D} {xs : List α} {r : Int} (h0 : 0 ≤ r) (h1 : r < xs.length) : ∃ x ∈ xs, ∀ S, gIx G S (.lst (xs.map f)) (.int r) = some (f x) := by
  obtain ⟨y, hy, e⟩ := pkD (xs := xs.map f) h0 (by rw [List.length_map]; exact h1)
  obtain ⟨x, hx, e2⟩ := List.mem_map.mp hy
  exact ⟨x, hx, fun S => by rw [e, e2]⟩
theorem pkN {r : Int} (h0 : 0 ≤ r) (h1 : r < 4) : ∃ x ∈ NN, ∀ S, gIx G S (.lst [.str "a", .str "b", .str "c", .str "count"]) (.int r) = some (.str x) := pkM (f := Fy.D.str) (xs := NN) h0 h1
theorem pkG {r s : Int} (h0 : 0 ≤ r) (h1 : r < 3) (h2 : 0 ≤ s) (h3 : s < 2) : ∃ g h, g ∈ GG ∧ h ∈ GG ∧ g ≠ h ∧ (∀ S, gIx G S (.lst [.str "G", .str "H", .str "Kit"]) (.int r) = some (.str g)) ∧ ∀ S, gIx G S (.lst [.str "G", .str "H", .str "Kit"]) (.int ((r + 1 + s) % 3)) = some (.str h) := by
  have e1 : r = 0 ∨ r = 1 ∨ r = 2 := by omega
  have e2 : s = 0 ∨ s = 1 := by omega
  rcases e1 with rfl | rfl | rfl <;> rcases e2 with rfl | rfl
  · exact ⟨"G", "H", by decide +kernel, by decide +kernel, by decide +kernel, fun S => by simp, fun S => by simp⟩
  · exact ⟨"G", "Kit", by decide +kernel, by decide +kernel, by decide +kernel, fun S => by simp, fun S => by simp⟩
  · exact ⟨"H", "Kit", by decide +kernel, by decide +kernel, by decide +kernel, fun S => by simp, fun S => by simp⟩
  · exact ⟨"H", "G", by decide +kernel, by decide +kernel, by decide +kernel, fun S => by simp, fun S => by simp⟩
  · exact ⟨"Kit", "G", by decide +kernel, by decide +kernel, by decide +kernel, fun S => by simp, fun S => by simp⟩
  · exact ⟨"Kit", "H", by decide +kernel, by decide +kernel, by decide +kernel, fun S => by simp, fun S => by simp⟩
def drawn (a b : Str) (k : Int) (g h : Str) : List Dd := [.new g, .lt g h "copy", .add g a, .add g b, .put g a k b, .tie g a k b, .hang g a k h "copy", .hang g b k h "copy", .get a g b k, .sort a g b k, .pick g h a k "copy", .pick g g a k "copy", .tell a, .shw g, .shw h]
theorem drawn_ok {a b g h : Str} {k : Int} (ha : a ∈ NN) (hb : b ∈ NN) (hg : g ∈ GG) (hh : h ∈ GG) (hn : g ≠ h) (hk : inn k 0 2 = true) : ∀ d ∈ drawn a b k g h, d.wf ∧ d.isT = false := by
  have hm : ("copy" : Str) ∈ MM := by decide +kernel
  intro d hd
  simp only [drawn, List.mem_cons, List.not_mem_nil, or_false] at hd
  rcases hd with rfl | rfl | rfl | rfl | rfl | rfl | rfl | rfl | rfl | rfl | rfl | rfl | rfl | rfl | rfl <;> refine ⟨?_, rfl⟩ <;> simp only [Dd.wf] <;> simp [ha, hb, hg, hh, hn, hk, hm]
theorem e_simple {S0 : List I8} {l : Nat} (hB : Bx S0 l) : ∃ (d : Dd) (S' : List I8), F__law_simple [.loc l, .lst [.int 0, .int 3], .lst [.int 1, .int 5]] S0 true = .ok (.d d.toU) S' ∧ d.wf ∧ d.isT = false ∧ S'.length = S0.length ∧ Bx S' l := by
  obtain ⟨r1, S1, e1, l1, u1, n1, B1⟩ := e_choice hB (n := 4) (by decide) (by decide)
  obtain ⟨r2, S2, e2, l2, u2, n2, B2⟩ := e_choice B1 (n := 4) (by decide) (by decide)
  obtain ⟨r3, S3, e3, l3, u3, n3, B3⟩ := e_choice B2 (n := 4) (by decide) (by decide)
  obtain ⟨r4, S4, e4, l4, u4, n4, B4⟩ := e_choice B3 (n := 3) (by decide) (by decide)
  obtain ⟨r5, S5, e5, l5, u5, n5, B5⟩ := e_choice B4 (n := 3) (by decide) (by decide)
  obtain ⟨r6, S6, e6, l6, u6, n6, B6⟩ := e_choice B5 (n := 2) (by decide) (by decide)
  obtain ⟨r7, S7, e7, l7, u7, n7, B7⟩ := e_choice B6 (n := 19) (by decide) (by decide)
  obtain ⟨a, ha, ea⟩ := pkN l1 u1
  obtain ⟨b, hb, eb⟩ := pkN l2 u2
  obtain ⟨c, hc, ec⟩ := pkN l3 u3
  obtain ⟨g, h, hg, hh, hn, eg, eh⟩ := pkG l4 u4 l6 u6
  have hk : inn r5 0 2 = true := by unfold inn; simp only [Bool.and_eq_true, decide_eq_true_eq]; omega
  have hr : rng 0 3 = [.int 0, .int 1, .int 2] := rfl
  have hm3 : ∀ {S : List I8} {x : Int}, gMod S (.int x) (.int 3) = some (.int (x % 3)) := mod_i (by decide)
  have hm15 : ∀ {S : List I8} {x : Int}, gMod S (.int x) (.int 15) = some (.int (x % 15)) := mod_i (by decide)
  by_cases h1 : r7 < 3
  · obtain ⟨r8, S8, e8, l8, u8, n8, B8⟩ := e_choice B7 (n := 19999) (by decide) (by decide)
    obtain ⟨r9, S9, e9, l9, u9, n9, B9⟩ := e_choice B8 (n := 7) (by decide) (by decide)
    obtain ⟨n, hn, en⟩ := pkM (f := Fy.D.int) (xs := [0, 1, 2, -1, 3, 9999, r8 - 9999]) l9 u9
    refine ⟨.num a n, S9, ?_, ⟨ha, ?_⟩, rfl, by omega, B9⟩
    · simp only [List.map_cons, List.map_nil] at en
      simp [F__law_simple, m__law_simple, slots0, sizeLine_eq, datS, hr, okW, wipeR, e1, e2, e3, e4, e5, e6, e7, e8, e9, freeze, ea, eb, ec, eg, eh, hm3, h1, en, Dd.toU, Dd.toD]
    · unfold inn
      simp only [List.mem_cons, List.not_mem_nil, or_false] at hn
      simp only [Bool.and_eq_true, decide_eq_true_eq]
      omega
  · by_cases h2 : r7 = 3
    · obtain ⟨r8, S8, e8, l8, u8, n8, B8⟩ := e_choice B7 (n := 5) (by decide) (by decide)
      obtain ⟨o, ho, eo⟩ : ∃ o ∈ OO, ∀ S, gIx G S (.str "+-*<=") (.int r8) = some (.str o) := by
        have e1 : r8 = 0 ∨ r8 = 1 ∨ r8 = 2 ∨ r8 = 3 ∨ r8 = 4 := by omega
        rcases e1 with rfl | rfl | rfl | rfl | rfl
        · exact ⟨"+", by decide +kernel, fun S => by simp [gIx, sizeLine_eq]; refine ⟨by decide +kernel, 43, ?_, ?_⟩ <;> decide +kernel⟩
        · exact ⟨"-", by decide +kernel, fun S => by simp [gIx, sizeLine_eq]; refine ⟨by decide +kernel, 45, ?_, ?_⟩ <;> decide +kernel⟩
        · exact ⟨"*", by decide +kernel, fun S => by simp [gIx, sizeLine_eq]; refine ⟨by decide +kernel, 42, ?_, ?_⟩ <;> decide +kernel⟩
        · exact ⟨"<", by decide +kernel, fun S => by simp [gIx, sizeLine_eq]; refine ⟨by decide +kernel, 60, ?_, ?_⟩ <;> decide +kernel⟩
        · exact ⟨"=", by decide +kernel, fun S => by simp [gIx, sizeLine_eq]; refine ⟨by decide +kernel, 61, ?_, ?_⟩ <;> decide +kernel⟩
      refine ⟨.sum a b o c, S8, ?_, ⟨ha, hb, ho, hc⟩, rfl, by omega, B8⟩
      simp [F__law_simple, m__law_simple, slots0, sizeLine_eq, datS, hr, okW, wipeR, e1, e2, e3, e4, e5, e6, e7, e8, freeze, ea, eb, ec, eg, eh, hm3, h1, h2, eo, Dd.toU, Dd.toD]
    · have ne2 : ∀ {S : List I8} {x y : Int}, gNe S (.lst [.int x, .int y]) (.lst []) = some (.bl true) := fun {S x y} => dI_nenil (S := S) (w := [x, y])
      by_cases h3 : r7 = 16
      · obtain ⟨r8, S8, e8, l8, u8, n8, B8⟩ := e_choice B7 (n := 2) (by decide) (by decide)
        obtain ⟨s, hs, es⟩ := pkM (f := Fy.D.int) (xs := [0, 3]) l8 u8
        refine ⟨.send s g "copy", S8, ?_, ⟨by simpa using hs, hg, by decide +kernel⟩, rfl, by omega, B8⟩
        simp only [List.map_cons, List.map_nil] at es
        simp [F__law_simple, m__law_simple, slots0, sizeLine_eq, datS, hr, okW, wipeR, e1, e2, e3, e4, e5, e6, e7, e8, freeze, ea, eb, ec, eg, eh, hm3, h1, h2, h3, ne2, es, Dd.toU, Dd.toD]
      · by_cases h4 : r7 = 17
        · obtain ⟨r8, S8, e8, l8, u8, n8, B8⟩ := e_choice B7 (n := 2) (by decide) (by decide)
          obtain ⟨s, hs, es⟩ := pkM (f := Fy.D.int) (xs := [1, 5]) l8 u8
          refine ⟨.take g s, S8, ?_, ⟨hg, by simpa using hs⟩, rfl, by omega, B8⟩
          simp only [List.map_cons, List.map_nil] at es
          simp [F__law_simple, m__law_simple, slots0, sizeLine_eq, datS, hr, okW, wipeR, e1, e2, e3, e4, e5, e6, e7, e8, freeze, ea, eb, ec, eg, eh, hm3, h1, h2, h3, h4, ne2, es, Dd.toU, Dd.toD]
        · obtain ⟨d, hd, ed⟩ := pkM (f := Dd.toU) (xs := drawn a b r5 g h) (r := (r7 - 4) % 15) (by omega) (by simp [drawn]; omega)
          obtain ⟨hd1, hd2⟩ := drawn_ok ha hb hg hh hn hk d hd
          refine ⟨d, S7, ?_, hd1, hd2, by omega, B7⟩
          generalize d.toU = u at ed ⊢
          simp only [drawn, List.map_cons, List.map_nil, Dd.toU, Dd.toD] at ed
          simp [F__law_simple, m__law_simple, slots0, sizeLine_eq, datS, hr, okW, wipeR, e1, e2, e3, e4, e5, e6, e7, freeze, ea, eb, ec, eg, eh, hm3, hm15, h1, h2, h3, h4, ne2, gAdd, ed]
/-- the row behind a row -/
theorem e_onward {S0 : List I8} {l : Nat} (hB : Bx S0 l) {k n : Int} (h0 : 0 ≤ k) (h1 : k < n) (h2 : n ≤ 40) : ∃ (y : Int) (S' : List I8), F__law_onward [.loc l, .int k, .int n] S0 true = .ok (.d (.int y)) S' ∧ inn y (-1) (n - 1) = true ∧ S'.length = S0.length ∧ Bx S' l := by
  obtain ⟨r1, S1, e1, l1, u1, n1, B1⟩ := e_choice hB (n := 3) (by decide) (by decide)
  by_cases h3 : 0 < r1
  · by_cases h4 : k + 1 < n
    · refine ⟨k + 1, S1, ?_, ?_, n1, B1⟩
      · simp [F__law_onward, m__law_onward, slots0, e1, freeze, h3, h4]
      · unfold inn; simp only [Bool.and_eq_true, decide_eq_true_eq]; omega
    · refine ⟨-1, S1, ?_, ?_, n1, B1⟩
      · simp [F__law_onward, m__law_onward, slots0, e1, freeze, h3, h4]
      · unfold inn; simp only [Bool.and_eq_true, decide_eq_true_eq]; omega
  · obtain ⟨r2, S2, e2, l2, u2, n2, B2⟩ := e_choice B1 (n := n + 1) (by omega) (by omega)
    refine ⟨r2 - 1, S2, ?_, ?_, by omega, B2⟩
    · simp [F__law_onward, m__law_onward, slots0, e1, freeze, h3, e2]
    · unfold inn; simp only [Bool.and_eq_true, decide_eq_true_eq]; omega
end K90

set_option maxHeartbeats 2000000
namespace K90
open PySem PySem.Spec Fy
noncomputable def rw1 : S8 := (sset 4 (mtup (mcons (mret (.str "test")) (mcons (mbin (gIx G) (mlst (mcons (mret (.str "a")) (mcons (mret (.str "count")) mnil))) (fz (tcall 2 F__law_choice (mcons (mvar 0) (mcons (mret (.int 2)) mnil))))) mnil))))
noncomputable def rw2 : S8 := (sif (mtb (mbin gGt (fz (tcall 2 F__law_choice (mcons (mvar 0) (mcons (mret (.int 5)) mnil)))) (mret (.int 0)))) (sset 4 (fz (tcall 3 F__law_simple (mcons (mvar 0) (mcons (mlst (mcons (mret (.int 0)) (mcons (mret (.int 3)) mnil))) (mcons (mlst (mcons (mret (.int 1)) (mcons (mret (.int 5)) mnil))) mnil)))))) (sif (mtb (mbin gEq (fz (tcall 2 F__law_choice (mcons (mvar 0) (mcons (mret (.int 2)) mnil)))) (mret (.int 0)))) (sset 4 (mbin (gIx G) (mlst (mcons (mtup (mcons (mret (.str "let")) (mcons (mret (.str "G")) (mcons (mret (.str "H")) mnil)))) (mcons (mtup (mcons (mret (.str "send")) (mcons (mret (.int 0)) (mcons (mret (.str "G")) mnil)))) (mcons (mtup (mcons (mret (.str "pick")) (mcons (mret (.str "H")) (mcons (mret (.str "H")) (mcons (mret (.str "a")) (mcons (mret (.int 0)) mnil)))))) mnil)))) (fz (tcall 2 F__law_choice (mcons (mvar 0) (mcons (mret (.int 3)) mnil)))))) snext))
noncomputable def rwr : S8 := (sseq (sset 5 (mtup (mcons (fz (tcall 3 F__law_onward (mcons (mvar 0) (mcons (mvar 3) (mcons (mvar 2) mnil))))) mnil))) (sseq (sif (mtb (mbin gEq (mbin (gIx G) (mvar 4) (mret (.int 0))) (mret (.str "test")))) (sset 5 (mbin gAdd (mvar 5) (mtup (mcons (fz (tcall 3 F__law_onward (mcons (mvar 0) (mcons (mvar 3) (mcons (mvar 2) mnil))))) mnil)))) snext) (sseq (sif (mtb (mcall 1 F__law_marked (mcons (mvar 4) mnil))) (sset 4 (mbin gAdd (mvar 4) (mtup (mcons (mbin (gIx G) (mlst (mcons (mret (.str "copy")) (mcons (mret (.str "give")) mnil))) (fz (tcall 2 F__law_choice (mcons (mvar 0) (mcons (mret (.int 2)) mnil))))) mnil)))) snext) (sapp 1 (mtup (mcons (mvar 4) (mcons (mvar 5) mnil)))))))
theorem rw_eq : f1__law_rows = sseq rw1 (sseq rw2 rwr) := rfl
section
variable {S : List I8} {b : Bool}
theorem e_marked_U (d : Dd) : F__law_marked [d.toU] S b = .ok (.d (.bl d.sp.isSome)) S := by
  cases d <;> simp [F__law_marked, m__law_marked, slots0, Dd.toU, Dd.toD, Dd.sp, gIn, dIn, flatD, inF, eqF, okW, datS, wipeR, sizeLine_eq]
theorem word_U (d : Dd) : gIx G S d.toU (.int 0) = some (.str d.word) := by cases d <;> simp [Dd.toU, Dd.toD, Dd.word]
theorem U_add {d : Dd} {m x : Str} (h : d.sp = some x) : gAdd S d.toU (.tup [.str m]) = some (d.remark m).toD := by
  cases d <;> first | (cases h; done) | skip
  all_goals simp [Dd.toU, Dd.remark, Dd.toD, gAdd, sizeLine_eq]
theorem U_D {d : Dd} (h : d.sp = none) : d.toU = d.toD := by cases d <;> first | (cases h; done) | rfl
end
abbrev qR (l : Nat) (acc : List Fy.D) (n k : Int) (o4 o5 : Option T) (S : List I8) : Q8 := ⟨[some (.d (.loc l)), some (.fl acc), some (.d (.int n)), some (.d (.int k)), o4, o5], S, true⟩
theorem rows_AB {S0 : List I8} {l : Nat} (hB : Bx S0 l) {acc : List Fy.D} {n k : Int} {o4 o5 : Option T} : ∃ (d : Dd) (S' : List I8), d.wf ∧ S'.length = S0.length ∧ Bx S' l ∧
    sseq rw1 (sseq rw2 rwr) (qR l acc n k o4 o5 S0) = rwr (qR l acc n k (some (.d d.toU)) o5 S') := by
  obtain ⟨r1, S1, e1, l1, u1, n1, B1⟩ := e_choice hB (n := 2) (by decide) (by decide)
  obtain ⟨r2, S2, e2, l2, u2, n2, B2⟩ := e_choice B1 (n := 5) (by decide) (by decide)
  obtain ⟨a, ha, ea⟩ := pkM (f := Fy.D.str) (xs := ["a", "count"]) l1 u1
  have ha' : a ∈ NN := by
    simp only [List.mem_cons, List.not_mem_nil, or_false] at ha
    rcases ha with rfl | rfl <;> decide +kernel
  simp only [List.map_cons, List.map_nil] at ea
  by_cases h1 : 0 < r2
  · obtain ⟨d, S3, e3, hd, ht, n3, B3⟩ := e_simple B2
    refine ⟨d, S3, hd, by omega, B3, ?_⟩
    simp [rw1, rw2, e1, e2, e3, freeze, ea, sizeLine_eq, h1]
  · obtain ⟨r3, S3, e3, l3, u3, n3, B3⟩ := e_choice B2 (n := 2) (by decide) (by decide)
    by_cases h2 : r3 = 0
    · obtain ⟨r4, S4, e4, l4, u4, n4, B4⟩ := e_choice B3 (n := 3) (by decide) (by decide)
      obtain ⟨d, hd, ed⟩ := pkM (f := Dd.toU) (xs := [.lt "G" "H" "copy", .send 0 "G" "copy", .pick "H" "H" "a" 0 "copy"]) l4 u4
      have hw : d.wf := by
        simp only [List.mem_cons, List.not_mem_nil, or_false] at hd
        rcases hd with rfl | rfl | rfl <;> simp only [Dd.wf] <;> decide +kernel
      refine ⟨d, S4, hw, by omega, B4, ?_⟩
      generalize d.toU = u at ed ⊢
      simp only [List.map_cons, List.map_nil, Dd.toU, Dd.toD] at ed
      simp [rw1, rw2, e1, e2, e3, e4, freeze, ea, sizeLine_eq, h1, h2, ed]
    · refine ⟨.test a, S3, ha', by omega, B3, ?_⟩
      simp [rw1, rw2, e1, e2, e3, freeze, ea, sizeLine_eq, h1, h2, Dd.toU, Dd.toD]
theorem rows_f1 {S0 : List I8} {l : Nat} (hB : Bx S0 l) {acc : List Fy.D} {n : Nat} {k : Int} {o4 o5 : Option T} (h0 : 0 ≤ k) (h1 : k < n) (h2 : n ≤ 40) (hl : acc.length ≤ 500) : ∃ (r : Rw) (S' : List I8) (o4' o5' : Option T), RowOk n r ∧ S'.length = S0.length ∧ Bx S' l ∧ dat o4' ∧ dat o5' ∧
    f1__law_rows (qR l acc n k o4 o5 S0) = .ok .nx (qR l (acc ++ [rowD r]) n k o4' o5' S') := by
  obtain ⟨d, S1, hd, n1, B1, e1⟩ := rows_AB hB (acc := acc) (n := n) (k := k) (o4 := o4) (o5 := o5)
  rw [rw_eq, e1]
  obtain ⟨y, S2, e2, hy, n2, B2⟩ := e_onward B1 (k := k) (n := n) h0 (by omega) (by omega)
  have hw := fun S => word_U (S := S) d
  have hm := fun S => e_marked_U (S := S) (b := false) d
  have ht := word_test d
  cases hT : d.isT with
  | true =>
    have hs : d.sp = none := by cases d <;> first | (cases hT; done) | rfl
    rw [hT] at ht
    have ht2 : (d.word = "test") := by simpa using ht
    rw [hs] at hm
    obtain ⟨z, S3, e3, hz, n3, B3⟩ := e_onward B2 (k := k) (n := n) h0 (by omega) (by omega)
    refine ⟨⟨d, [y, z]⟩, S3, some (.d d.toU), some (.d (.tup [.int y, .int z])), ⟨hd, by rw [hT]; rfl, fun w hw => by simp only [List.mem_cons, List.not_mem_nil, or_false] at hw; rcases hw with rfl | rfl <;> assumption⟩, by omega, B3, .inr ⟨_, rfl⟩, .inr ⟨_, rfl⟩, ?_⟩
    simp only [U_D hs] at hw hm
    simp [rwr, e2, e3, freeze, hw, ht2, hm, sizeLine_eq, gAdd, sapp, own, upd8, rowD, dI, U_D hs]
    omega
  | false =>
    rw [hT] at ht
    have ht2 : ¬ (d.word = "test") := by simpa using ht
    have hrow : ∀ d' : Dd, d'.wf → d'.isT = false → RowOk n ⟨d', [y]⟩ := fun d' h1 h2 => ⟨h1, by rw [h2]; rfl, fun w hw => by simp only [List.mem_cons, List.not_mem_nil, or_false] at hw; rw [hw]; exact hy⟩
    cases hs : d.sp with
    | none =>
      rw [hs] at hm
      refine ⟨⟨d, [y]⟩, S2, some (.d d.toU), some (.d (.tup [.int y])), hrow d hd hT, by omega, B2, .inr ⟨_, rfl⟩, .inr ⟨_, rfl⟩, ?_⟩
      simp only [U_D hs] at hw hm
      simp [rwr, e2, freeze, hw, ht2, hm, sizeLine_eq, gAdd, sapp, own, upd8, rowD, dI, U_D hs]
      omega
    | some x =>
      rw [hs] at hm
      obtain ⟨r3, S3, e3, l3, u3, n3, B3⟩ := e_choice B2 (n := 2) (by decide) (by decide)
      obtain ⟨m, hmm, em⟩ := pkM (f := Fy.D.str) (xs := MM) l3 u3
      have ea := fun S => U_add (S := S) (m := m) hs
      refine ⟨⟨d.remark m, [y]⟩, S3, some (.d (d.remark m).toD), some (.d (.tup [.int y])), hrow _ (rm_wf hd hmm) (by rw [rm_isT]; exact hT), by omega, B3, .inr ⟨_, rfl⟩, .inr ⟨_, rfl⟩, ?_⟩
      simp only [MM, List.map_cons, List.map_nil] at em
      simp [rwr, e2, freeze, hw, ht2, hm, e3, em, ea, sizeLine_eq, sapp, own, upd8, rowD, dI]
      omega
theorem rows_for {l : Nat} {n : Nat} (h2 : n ≤ 40) : ∀ (ks : List Nat) (S0 : List I8) (rs : List Rw) (k : Int) (ok : Option T) (o4 o5 : Option T), dat ok → dat o4 → dat o5 → Bx S0 l → (∀ j ∈ ks, j < n) → rs.length + ks.length ≤ 40 → (∀ r ∈ rs, RowOk n r) →
    ∃ (rs' : List Rw) (S' : List I8) (ok' o4' o5' : Option T), rs'.length = rs.length + ks.length ∧ (∀ r ∈ rs', RowOk n r) ∧ S'.length = S0.length ∧ Bx S' l ∧
    sforL (gset 3) f1__law_rows (ks.map fun j : Nat => .int (0 + (j : Int))) ⟨[some (.d (.loc l)), some (.fl (rs.map rowD)), some (.d (.int n)), ok, o4, o5], S0, true⟩ = .ok .nx ⟨[some (.d (.loc l)), some (.fl (rs'.map rowD)), some (.d (.int n)), ok', o4', o5'], S', true⟩
  | [], S0, rs, k, ok, o4, o5, _, _, _, hB, _, _, hr => ⟨rs, S0, ok, o4, o5, by simp, hr, rfl, hB, rfl⟩
  | j :: ks, S0, rs, k, ok, o4, o5, g3, g4, g5, hB, hj, hl, hr => by
    rw [List.length_cons] at hl
    obtain ⟨r, S1, a4, a5, hr1, n1, B1, g4', g5', e⟩ := rows_f1 hB (acc := rs.map rowD) (n := n) (k := 0 + (j : Int)) (o4 := o4) (o5 := o5) (by omega) (by have := hj j (by simp); omega) h2 (by rw [List.length_map]; omega)
    obtain ⟨rs', S', ok', o4', o5', hl', hr', n', B', ih⟩ := rows_for h2 ks S1 (rs ++ [r]) k (some (.d (.int (0 + (j : Int))))) a4 a5 (.inr ⟨_, rfl⟩) g4' g5' B1 (fun i hi => hj i (List.mem_cons_of_mem _ hi)) (by rw [List.length_append, List.length_singleton]; omega) (fun s hs => by
      rcases List.mem_append.mp hs with h | h
      · exact hr s h
      · rw [List.mem_singleton.mp h]; exact hr1)
    refine ⟨rs', S', ok', o4', o5', by rw [hl', List.length_append, List.length_singleton, List.length_cons]; omega, hr', by omega, B', ?_⟩
    have hg : gset 3 (.int (0 + (j : Int))) ⟨[some (.d (.loc l)), some (.fl (rs.map rowD)), some (.d (.int n)), ok, o4, o5], S0, true⟩ = some (qR l (rs.map rowD) n (0 + (j : Int)) o4 o5 S0) := by
      rcases g3 with rfl | ⟨d, rfl⟩ <;> rfl
    rw [List.map_cons, x_forCons, hg]
    dsimp only
    rw [e]
    dsimp only
    rw [List.map_append] at ih
    exact ih
theorem e_rows {S0 : List I8} {l : Nat} (hB : Bx S0 l) : ∃ (rs : List Rw) (S' : List I8), F__law_rows [.loc l] S0 true = .ok (.d (rowsD rs)) S' ∧ RowsOk rs ∧ S'.length = S0.length ∧ Bx S' l := by
  obtain ⟨r1, S1, e1, l1, u1, n1, B1⟩ := e_choice hB (n := 3) (by decide) (by decide)
  obtain ⟨r2, S2, e2, l2, u2, n2, B2⟩ := e_choice B1 (n := 9) (by decide) (by decide)
  obtain ⟨r3, S3, e3, l3, u3, n3, B3⟩ := e_choice B2 (n := 40) (by decide) (by decide)
  obtain ⟨r4, S4, e4, l4, u4, n4, B4⟩ := e_choice B3 (n := 3) (by decide) (by decide)
  obtain ⟨m, hm, em⟩ := pkM (f := Fy.D.int) (xs := [r1, r2, 1 + r3]) l4 u4
  have hm1 : 0 ≤ m ∧ m ≤ 40 := by
    simp only [List.mem_cons, List.not_mem_nil, or_false] at hm
    omega
  obtain ⟨n, rfl⟩ : ∃ n : Nat, m = n := ⟨m.toNat, by omega⟩
  obtain ⟨rs, S5, ok', o4', o5', hl, hr, n5, B5, e⟩ := rows_for (l := l) (n := n) (by omega) (List.range n) S4 [] 0 none none none (.inl rfl) (.inl rfl) (.inl rfl) B4 (fun j hj => List.mem_range.mp hj) (by simp; omega) (fun r hr => absurd hr (by simp))
  have hl2 : rs.length = n := by rw [hl]; simp
  refine ⟨rs, S5, ?_, ⟨by omega, by rw [hl2]; exact hr⟩, by omega, B5⟩
  have hrg : ∀ q : Q8, q.r[2]? = some (some (.d (.int (n : Nat)))) → irange1 (mvar 2) q = .ok ((List.range n).map fun i : Nat => .int (0 + (i : Int))) q := by
    intro q hq
    rw [x_irange1, x_mvar, hq]
    dsimp only
    rw [if_pos (rng_ok (by omega)), rng_0, Int.toNat_natCast]
  simp only [List.map_cons, List.map_nil] at em e
  simp [-x_irange1, -Int.zero_add, F__law_rows, m__law_rows, slots0, sizeLine_eq, e1, e2, e3, e4, freeze, em, hrg, e, seen_fl, tuple_l, rowsD]
end K90

set_option maxHeartbeats 2000000
namespace K90
open PySem PySem.Spec Fy
theorem len_scr {S : List I8} {ns : List Int} : gLen S (.scr (ns.map .int)) = some (.int ns.length) := by simp [gLen]
theorem e_cell_at {ns : List Int} {k : Int} (h0 : 0 ≤ k) {S : List I8} {b : Bool} : ∃ c : Int, F__law_cell_at [.scr (ns.map .int), .int k] S b = .ok (.d (.int c)) S := by
  by_cases h : k < ns.length
  · have hk : k.toNat < ns.length := by omega
    have e : gIx G S (.scr (ns.map .int)) (.int k) = some (.int ns[k.toNat]) := atI_nat h0 (by simp [hk])
    exact ⟨ns[k.toNat], by simp [F__law_cell_at, m__law_cell_at, slots0, len_scr, h, e]⟩
  · exact ⟨0, by simp [F__law_cell_at, m__law_cell_at, slots0, len_scr, h]⟩
theorem pow18 {S : List I8} : gPow S (.int 10) (.int 18) = some (.int 1000000000000000000) := by
  unfold gPow
  dsimp only
  rw [if_pos (by decide)]
  rfl
theorem e_state {ns : List Int} {k : Int} (h0 : 0 ≤ k) {S : List I8} {b : Bool} : ∃ x y z : Int, F__law_state [.scr (ns.map .int), .int k] S b = .ok (.fl [.int x, .int y, .int z]) S := by
  obtain ⟨c, e⟩ := e_cell_at (ns := ns) h0 (S := S) (b := false)
  have h1 : gMod S (.int c) (.int 2147483629) = some (.int (c % 2147483629)) := mod_i (by decide)
  have h2 : ∀ {i j : Int}, gMax2 S [.int i, .int j] = some (.int (if j > i then j else i)) := rfl
  exact ⟨_, _, _, by simp [F__law_state, m__law_state, slots0, e, freeze, h1, pow18, h2, sizeLine_eq]; exact ⟨rfl, rfl, rfl⟩⟩
noncomputable abbrev qL (s n : Fy.D) (l : Nat) (lap : Fy.D) (rs : List Rw) (o6 o7 o8 : Option T) (S : List I8) : Q8 := ⟨[some (.d s), some (.d n), some (.d (.loc l)), some (.d lap), some (.d (rowsD rs)), some (.d (dI (copies rs))), o6, o7, o8], S, true⟩
theorem law_f1 {s n lap : Fy.D} {l : Nat} {rs : List Rw} (h : RowsOk rs) {k : Int} (hk : inn k 0 (rs.length - 1) = true) {S0 : List I8} (hB : Bx S0 l) : ∃ S', S'.length = S0.length ∧ Bx S' l ∧
    f1_law (qL s n l lap rs (some (.d (.int k))) (some (.d (rowAt rs k).d.toD)) (some (.d (dI (rowAt rs k).nx))) S0) = .ok .nx (qL s n l lap rs (some (.d (.int k))) (some (.d (rowAt rs k).d.toD)) (some (.d (dI (rowAt rs k).nx))) S') := by
  have e0 := e_law_marked (S := S0) (b := false) (rowAt rs k).d
  cases hs : (rowAt rs k).d.sp with
  | none =>
    rw [hs] at e0
    exact ⟨S0, rfl, hB, by simp [f1_law, e0, freeze]⟩
  | some x =>
    rw [hs] at e0
    have e1 := e_row_right (S := S0) (b := false) h hk hs
    obtain ⟨r1, S1, e2, l1, u1, n1, B1⟩ := e_choice hB (n := 4) (by decide) (by decide)
    have e3 := e_alone_right (S := S1) (b := false) h hk hs
    refine ⟨S1, n1, B1, ?_⟩
    by_cases hr : r1 = 0 <;> simp [f1_law, e0, e1, e2, e3, freeze, hr]
theorem law_for1 {s n lap : Fy.D} {l : Nat} {rs : List Rw} (h : RowsOk rs) : ∀ (ps : List (Rw × Nat)) (S0 : List I8) (o6 o7 o8 : Option T), dat o6 → dat o7 → dat o8 → Bx S0 l → (∀ p ∈ ps, p ∈ rs.zipIdx) → ∃ (S' : List I8) (o6' o7' o8' : Option T), S'.length = S0.length ∧ Bx S' l ∧ dat o6' ∧ dat o7' ∧ dat o8' ∧
    sforL (gtup 2 (gcons (gset 6) (gcons (gtup 2 (gcons (gset 7) (gcons (gset 8) gnil))) gnil))) f1_law (ps.map fun p => .tup [.int (p.2 : Nat), rowD p.1]) (qL s n l lap rs o6 o7 o8 S0) = .ok .nx (qL s n l lap rs o6' o7' o8' S')
  | [], S0, o6, o7, o8, g6, g7, g8, hB, _ => ⟨S0, o6, o7, o8, rfl, hB, g6, g7, g8, rfl⟩
  | p :: ps, S0, o6, o7, o8, g6, g7, g8, hB, hp => by
    have h3 := List.mem_zipIdx (hp p (by simp))
    have hlt : p.2 < rs.length := by omega
    have hk : inn ((p.2 : Nat) : Int) 0 (rs.length - 1) = true := inn_iff.mpr ⟨by omega, by omega⟩
    have er : rowAt rs ((p.2 : Nat) : Int) = p.1 := by
      unfold rowAt
      rw [Int.toNat_natCast, List.getD_eq_getElem?_getD, List.getElem?_eq_getElem hlt]
      have := h3.2.2
      simp at this
      simp [this]
    obtain ⟨S1, n1, B1, e1⟩ := law_f1 (s := s) (n := n) (lap := lap) h hk hB
    rw [er] at e1
    obtain ⟨S', o6', o7', o8', n2, B2, g6', g7', g8', ih⟩ := law_for1 h ps S1 (some (.d (.int (p.2 : Nat)))) (some (.d p.1.d.toD)) (some (.d (dI p.1.nx))) (.inr ⟨_, rfl⟩) (.inr ⟨_, rfl⟩) (.inr ⟨_, rfl⟩) B1 fun q hq => hp q (List.mem_cons_of_mem _ hq)
    refine ⟨S', o6', o7', o8', by omega, B2, g6', g7', g8', ?_⟩
    have hg : gtup 2 (gcons (gset 6) (gcons (gtup 2 (gcons (gset 7) (gcons (gset 8) gnil))) gnil)) (.tup [.int (p.2 : Nat), rowD p.1]) (qL s n l lap rs o6 o7 o8 S0) = some (qL s n l lap rs (some (.d (.int (p.2 : Nat)))) (some (.d p.1.d.toD)) (some (.d (dI p.1.nx))) S0) := by
      rcases g6 with rfl | ⟨d, rfl⟩ <;> rcases g7 with rfl | ⟨d', rfl⟩ <;> rcases g8 with rfl | ⟨d'', rfl⟩ <;> rfl
    rw [List.map_cons, x_forCons, hg]
    dsimp only
    rw [e1]
    exact ih
/-- one lap -/
theorem law_f2 {s n lap : Fy.D} {l : Nat} {S0 : List I8} (hB : Bx S0 l) {o4 o5 o6 o7 o8 : Option T} (g6 : dat o6) (g7 : dat o7) (g8 : dat o8) : ∃ (S' : List I8) (o4' o5' o6' o7' o8' : Option T), S'.length = S0.length ∧ Bx S' l ∧ dat o6' ∧ dat o7' ∧ dat o8' ∧
    f2_law ⟨[some (.d s), some (.d n), some (.d (.loc l)), some (.d lap), o4, o5, o6, o7, o8], S0, true⟩ = .ok .nx ⟨[some (.d s), some (.d n), some (.d (.loc l)), some (.d lap), o4', o5', o6', o7', o8'], S', true⟩ := by
  obtain ⟨rs, S1, e1, h, n1, B1⟩ := e_rows hB
  have e2 := e_must_copy (S := S1) (b := false) h
  obtain ⟨S2, o6', o7', o8', n2, B2, g6', g7', g8', e3⟩ := law_for1 (s := s) (n := n) (lap := lap) h rs.zipIdx S1 o6 o7 o8 g6 g7 g8 B1 fun _ h => h
  refine ⟨S2, some (.d (rowsD rs)), some (.d (dI (copies rs))), o6', o7', o8', by omega, B2, g6', g7', g8', ?_⟩
  have h5 : itemsD (rowsD rs) = some (rs.map rowD) := rfl
  simp [f2_law, e1, freeze, e2, h5, enum_rows, e3]
theorem law_f3 {ns : List Int} {k : Int} (h0 : 0 ≤ k) {S0 : List I8} {o2 o3 o4 o5 o6 o7 o8 : Option T} (g2 : dat o2) (g3 : dat o3) (g6 : dat o6) (g7 : dat o7) (g8 : dat o8) : ∃ (S' : List I8) (o2' o3' o4' o5' o6' o7' o8' : Option T), dat o2' ∧ dat o3' ∧ dat o6' ∧ dat o7' ∧ dat o8' ∧
    f3_law ⟨[some (.d (.scr (ns.map .int))), some (.d (.int k)), o2, o3, o4, o5, o6, o7, o8], S0, true⟩ = .ok .nx ⟨[some (.d (.scr (ns.map .int))), some (.d (.int k)), o2', o3', o4', o5', o6', o7', o8'], S', true⟩ := by
  obtain ⟨x, y, z, e0⟩ := e_state (ns := ns) h0 (S := S0) (b := true)
  have hB : Bx (S0 ++ [.box (.fl [.int x, .int y, .int z])]) S0.length := ⟨x, y, z, by simp⟩
  obtain ⟨S1, a4, a5, a6, a7, a8, n1, B1, q6, q7, q8, e1⟩ := law_f2 (s := .scr (ns.map .int)) (n := .int k) (lap := .int 0) hB (o4 := o4) (o5 := o5) g6 g7 g8
  obtain ⟨S2, b4, b5, b6, b7, b8, n2, B2, p6, p7, p8, e2⟩ := law_f2 (s := .scr (ns.map .int)) (n := .int k) (lap := .int 1) B1 (o4 := a4) (o5 := a5) q6 q7 q8
  refine ⟨S2, some (.d (.loc S0.length)), some (.d (.int 1)), b4, b5, b6, b7, b8, .inr ⟨_, rfl⟩, .inr ⟨_, rfl⟩, p6, p7, p8, ?_⟩
  have hr : rng 0 2 = [.int 0, .int 1] := rfl
  have hd : ∀ {o : Option T} {r : List (Option T)} {i : Nat}, dat o → r[i]? = some o → datS r i = true := by
    intro o r i h e
    unfold datS
    rw [e]
    rcases h with rfl | ⟨d, rfl⟩ <;> rfl
  rcases g2 with rfl | ⟨d2, rfl⟩ <;> rcases g3 with rfl | ⟨d3, rfl⟩ <;> simp [f3_law, sbox, x_bnd, e0, datS, hr, x_forCons, e1, e2]
theorem law_for3 {ns : List Int} : ∀ (ks : List Nat) (S0 : List I8) (o1 o2 o3 o4 o5 o6 o7 o8 : Option T), dat o1 → dat o2 → dat o3 → dat o6 → dat o7 → dat o8 → ∃ (S' : List I8) (o1' o2' o3' o4' o5' o6' o7' o8' : Option T),
    sforL (gset 1) f3_law (ks.map fun j : Nat => .int (0 + (j : Int))) ⟨[some (.d (.scr (ns.map .int))), o1, o2, o3, o4, o5, o6, o7, o8], S0, true⟩ = .ok .nx ⟨[some (.d (.scr (ns.map .int))), o1', o2', o3', o4', o5', o6', o7', o8'], S', true⟩
  | [], S0, o1, o2, o3, o4, o5, o6, o7, o8, _, _, _, _, _, _ => ⟨S0, o1, o2, o3, o4, o5, o6, o7, o8, rfl⟩
  | j :: ks, S0, o1, o2, o3, o4, o5, o6, o7, o8, g1, g2, g3, g6, g7, g8 => by
    obtain ⟨S1, a2, a3, a4, a5, a6, a7, a8, q2, q3, q6, q7, q8, e⟩ := law_f3 (ns := ns) (k := 0 + (j : Int)) (by omega) (S0 := S0) (o4 := o4) (o5 := o5) g2 g3 g6 g7 g8
    obtain ⟨S', o1', o2', o3', o4', o5', o6', o7', o8', ih⟩ := law_for3 ks S1 (some (.d (.int (0 + (j : Int))))) a2 a3 a4 a5 a6 a7 a8 (.inr ⟨_, rfl⟩) q2 q3 q6 q7 q8
    refine ⟨S', o1', o2', o3', o4', o5', o6', o7', o8', ?_⟩
    have hg : gset 1 (.int (0 + (j : Int))) ⟨[some (.d (.scr (ns.map .int))), o1, o2, o3, o4, o5, o6, o7, o8], S0, true⟩ = some ⟨[some (.d (.scr (ns.map .int))), some (.d (.int (0 + (j : Int)))), o2, o3, o4, o5, o6, o7, o8], S0, true⟩ := by
      rcases g1 with rfl | ⟨d, rfl⟩ <;> rfl
    rw [List.map_cons, x_forCons, hg]
    dsimp only
    rw [e]
    exact ih
end K90

set_option maxHeartbeats 2000000
namespace K90
open PySem PySem.Spec Fy
theorem many_of (ns : List Int) : ∃ n : Nat, n ≤ 2 ∧ ∀ S, mN gMax2 (mcons (mret (.int 1)) (mcons (mN gMin2 (mcons (m1 gLen (mvar 0)) (mcons (mret (.int 2)) mnil))) mnil)) ⟨slots0 9 [.scr (ns.map .int)], S, true⟩ = .ok (.int (n : Nat)) ⟨slots0 9 [.scr (ns.map .int)], S, true⟩ := by
    have h1 : ∀ {S : List I8} {i j : Int}, gMax2 S [.int i, .int j] = some (.int (if j > i then j else i)) := rfl
    have h2 : ∀ {S : List I8} {i j : Int}, gMin2 S [.int i, .int j] = some (.int (if j < i then j else i)) := rfl
    by_cases h : ns.length ≤ 1
    · refine ⟨1, by omega, fun S => ?_⟩
      have h3 : ¬ ((2 : Int) < ns.length) := by omega
      have h4 : ¬ ((1 : Int) < ns.length) := by omega
      simp [slots0, len_scr, h1, h2, h3]
      omega
    · refine ⟨2, by omega, fun S => ?_⟩
      by_cases h3 : (2 : Int) < ns.length
      · simp [slots0, len_scr, h1, h2, h3]
      · have : ns.length = 2 := by omega
        simp [slots0, len_scr, h1, h2, this]
theorem law_true : ∀ ns : List Int, ns.length ≤ 63 → ∃ S, F_law [.scr (ns.map .int)] [] true = .ok (.d (.bl true)) S := by
  intro ns hl
  obtain ⟨n, hn, en⟩ := many_of ns
  obtain ⟨S', o1', o2', o3', o4', o5', o6', o7', o8', e⟩ := law_for3 (ns := ns) (List.range n) [] none none none none none none none none (.inl rfl) (.inl rfl) (.inl rfl) (.inl rfl) (.inl rfl) (.inl rfl)
  refine ⟨S', ?_⟩
  have hr : irange1 (mN gMax2 (mcons (mret (.int 1)) (mcons (mN gMin2 (mcons (m1 gLen (mvar 0)) (mcons (mret (.int 2)) mnil))) mnil))) ⟨slots0 9 [.scr (ns.map .int)], [], true⟩ = .ok ((List.range n).map fun j : Nat => .int (0 + (j : Int))) ⟨slots0 9 [.scr (ns.map .int)], [], true⟩ := by
    rw [x_irange1, en]
    dsimp only
    rw [if_pos (rng_ok (by omega)), rng_0, Int.toNat_natCast]
  have hs : slots0 9 [Fy.D.scr (ns.map .int)] = [some (.d (.scr (ns.map .int))), none, none, none, none, none, none, none, none] := rfl
  rw [hs] at hr
  unfold F_law m_law
  rw [x_run, x_sseq, x_sfor, hs, hr]
  dsimp only
  rw [e]
  simp
end K90

open PySem PySem.W PyProof.Rows
set_option maxHeartbeats 0 in
theorem PySem.Challenge.cw_giveway_k90_whole_ways_and_bars_of_rows_holds : PySem.Challenge.rw_giveway_k90_whole_ways_and_bars_of_rows.Holds := by
  w_on; o_law; k_head; (case hw => w_witness2)
  k_fill
  refine L2.walk_of (l := PySem.Challenge.rw_giveway_k90_whole_ways_and_bars_of_rows) (n := 63) (k := 12) (x := "_law_script") (CX := fun w => L2.CX PySem.Challenge.rw_giveway_k90_whole_ways_and_bars_of_rows.prog w) (sp := fun w => Fy.spLaw 63 _) rfl (by decide) rfl ⟨rfl, by decide, by decide⟩ (fun w h Y => PySem.W.kIn_of Y) ?F (fun _ _ a ns hl hO hS => ⟨a, ns, rfl, hl, hO, hS, fun _ => rfl⟩) ?X
  case F =>
    intro w mg fa h KX G hmg
    have fx : K90.Fx w (L2.KOf KX) mg := by
      dsimp only [L2.KOf]
      constructor
      · exact PySem.W.mg_none_of KX G (by k_is)
      · exact PySem.W.mg_none_of KX G (by k_is)
      · exact PySem.W.mg_none_of KX G (by k_is)
      · exact PySem.W.mg_none_of KX G (by k_is)
      · exact PySem.W.mg_none_of KX G (by k_is)
      · exact PySem.W.mg_none_of KX G (by k_is)
      · exact PySem.W.mg_none_of KX G (by k_is)
      · exact PySem.W.mg_none_of KX G (by k_is)
      · exact PySem.W.mg_none_of KX G (by k_is)
      · exact PySem.W.mg_none_of KX G (by k_is)
      · exact PySem.W.mg_none_of KX G (by k_is)
      · exact PySem.W.mg_none_of KX G (by k_is)
      · exact PySem.W.mg_none_of KX G (by k_is)
      · exact PySem.W.mg_none_of KX G (by k_is)
      · exact PySem.W.mg_none_of KX G (by k_is)
      · refine' Fy.gc_cv KX G ?y1a ?y1c; (case y1a => k_is); (case y1c => (refine' Fy.cv_tup ?y2l ?y2z ?y2f; (case y2l => k_is); (case y2z => exact Fy.small_of (n := 2) rfl (by decide)); (case y2f => exact ⟨_, _, rfl, ⟨_, rfl⟩, ⟨_, _, rfl, ⟨_, rfl⟩, rfl⟩⟩)))
      · refine' Fy.gc_str KX G ?y3a; (case y3a => k_is)
      · refine' Fy.gc_int KX G ?y4a; (case y4a => k_is)
      · refine' Fy.gc_gl KX G ?y5a; (case y5a => k_is)
      · refine' Fy.gc_gl KX G ?y6a; (case y6a => k_is)
      · refine' Fy.gc_str KX G ?y7a; (case y7a => k_is)
      · refine' Fy.gc_cv KX G ?y8a ?y8c; (case y8a => k_is); (case y8c => (refine' Fy.cv_tup ?y9l ?y9z ?y9f; (case y9l => k_is); (case y9z => exact Fy.small_of (n := 4) rfl (by decide)); (case y9f => exact ⟨_, _, rfl, ⟨_, rfl⟩, ⟨_, _, rfl, ⟨_, rfl⟩, ⟨_, _, rfl, ⟨_, rfl⟩, ⟨_, _, rfl, ⟨_, rfl⟩, rfl⟩⟩⟩⟩)))
      · refine' Fy.gc_cv KX G ?y10a ?y10c; (case y10a => k_is); (case y10c => (refine' Fy.cv_tup ?y11l ?y11z ?y11f; (case y11l => k_is); (case y11z => exact Fy.small_of (n := 2) rfl (by decide)); (case y11f => exact ⟨_, _, rfl, ⟨_, rfl⟩, ⟨_, _, rfl, ⟨_, rfl⟩, rfl⟩⟩)))
      · refine' Fy.gc_int KX G ?y12a; (case y12a => k_is)
      · refine' Fy.gc_int KX G ?y13a; (case y13a => k_is)
      · refine' Fy.gc_int KX G ?y14a; (case y14a => k_is)
      · refine' Fy.gc_int KX G ?y15a; (case y15a => k_is)
      · refine' Fy.gc_cv KX G ?y16a ?y16c; (case y16a => k_is); (case y16c => (refine' Fy.cv_tup ?y17l ?y17z ?y17f; (case y17l => k_is); (case y17z => exact Fy.small_of (n := 5) rfl (by decide)); (case y17f => exact ⟨_, _, rfl, ⟨_, rfl⟩, ⟨_, _, rfl, ⟨_, rfl⟩, ⟨_, _, rfl, ⟨_, rfl⟩, ⟨_, _, rfl, ⟨_, rfl⟩, ⟨_, _, rfl, ⟨_, rfl⟩, rfl⟩⟩⟩⟩⟩)))
      · refine' Fy.gc_int KX G ?y18a; (case y18a => k_is)
      · refine' Fy.gc_str KX G ?y19a; (case y19a => k_is)
      · refine' Fy.gc_gl KX G ?y20a; (case y20a => k_is)
      · refine' Fy.gc_gl KX G ?y21a; (case y21a => k_is)
      · refine' Fy.gc_gl KX G ?y22a; (case y22a => k_is)
      · refine' Fy.xc_of KX G ?y23a ?y23q ?y23k ?y23s ?y23t; (case y23a => k_is); (case y23q => k_exc); (case y23k => k_is); (case y23s => k_is); (case y23t => k_is)
      · refine' Fy.xc_of KX G ?y24a ?y24q ?y24k ?y24s ?y24t; (case y24a => k_is); (case y24q => k_exc); (case y24k => k_is); (case y24s => k_is); (case y24t => k_is)
      · refine' Fy.xc_of KX G ?y25a ?y25q ?y25k ?y25s ?y25t; (case y25a => k_is); (case y25q => k_exc); (case y25k => k_is); (case y25s => k_is); (case y25t => k_is)
      · refine' Fy.xc_of KX G ?y26a ?y26q ?y26k ?y26s ?y26t; (case y26a => k_is); (case y26q => k_exc); (case y26k => k_is); (case y26s => k_is); (case y26t => k_is)
      · refine' Fy.fn_is KX G ?y27a ?y27l ?y27c ?y27k; (case y27a => k_is); (case y27l => k_is); (case y27c => k_is); (case y27k => k_is)
      · refine' Fy.fn_is KX G ?y28a ?y28l ?y28c ?y28k; (case y28a => k_is); (case y28l => k_is); (case y28c => k_is); (case y28k => k_is)
      · refine' Fy.fn_is KX G ?y29a ?y29l ?y29c ?y29k; (case y29a => k_is); (case y29l => k_is); (case y29c => k_is); (case y29k => k_is)
      · refine' Fy.fn_is KX G ?y30a ?y30l ?y30c ?y30k; (case y30a => k_is); (case y30l => k_is); (case y30c => k_is); (case y30k => k_is)
      · refine' Fy.fn_is KX G ?y31a ?y31l ?y31c ?y31k; (case y31a => k_is); (case y31l => k_is); (case y31c => k_is); (case y31k => k_is)
      · refine' Fy.fn_is KX G ?y32a ?y32l ?y32c ?y32k; (case y32a => k_is); (case y32l => k_is); (case y32c => k_is); (case y32k => k_is)
      · refine' Fy.fn_is KX G ?y33a ?y33l ?y33c ?y33k; (case y33a => k_is); (case y33l => k_is); (case y33c => k_is); (case y33k => k_is)
      · refine' Fy.fn_is KX G ?y34a ?y34l ?y34c ?y34k; (case y34a => k_is); (case y34l => k_is); (case y34c => k_is); (case y34k => k_is)
      · refine' Fy.fn_is KX G ?y35a ?y35l ?y35c ?y35k; (case y35a => k_is); (case y35l => k_is); (case y35c => k_is); (case y35k => k_is)
      · refine' Fy.fn_is KX G ?y36a ?y36l ?y36c ?y36k; (case y36a => k_is); (case y36l => k_is); (case y36c => k_is); (case y36k => k_is)
      · refine' Fy.fn_is KX G ?y37a ?y37l ?y37c ?y37k; (case y37a => k_is); (case y37l => k_is); (case y37c => k_is); (case y37k => k_is)
      · refine' Fy.fn_is KX G ?y38a ?y38l ?y38c ?y38k; (case y38a => k_is); (case y38l => k_is); (case y38c => k_is); (case y38k => k_is)
      · refine' Fy.fn_is KX G ?y39a ?y39l ?y39c ?y39k; (case y39a => k_is); (case y39l => k_is); (case y39c => k_is); (case y39k => k_is)
      · refine' Fy.fn_is KX G ?y40a ?y40l ?y40c ?y40k; (case y40a => k_is); (case y40l => k_is); (case y40c => k_is); (case y40k => k_is)
      · refine' Fy.fn_is KX G ?y41a ?y41l ?y41c ?y41k; (case y41a => k_is); (case y41l => k_is); (case y41c => k_is); (case y41k => k_is)
      · refine' Fy.fn_is KX G ?y42a ?y42l ?y42c ?y42k; (case y42a => k_is); (case y42l => k_is); (case y42c => k_is); (case y42k => k_is)
      · refine' Fy.fn_is KX G ?y43a ?y43l ?y43c ?y43k; (case y43a => k_is); (case y43l => k_is); (case y43c => k_is); (case y43k => k_is)
      · refine' Fy.fn_is KX G ?y44a ?y44l ?y44c ?y44k; (case y44a => k_is); (case y44l => k_is); (case y44c => k_is); (case y44k => k_is)
      · refine' Fy.fn_is KX G ?y45a ?y45l ?y45c ?y45k; (case y45a => k_is); (case y45l => k_is); (case y45c => k_is); (case y45k => k_is)
      · refine' Fy.fn_is KX G ?y46a ?y46l ?y46c ?y46k; (case y46a => k_is); (case y46l => k_is); (case y46c => k_is); (case y46k => k_is)
      · refine' Fy.fn_is KX G ?y47a ?y47l ?y47c ?y47k; (case y47a => k_is); (case y47l => k_is); (case y47c => k_is); (case y47k => k_is)
      · refine' Fy.fn_is KX G ?y48a ?y48l ?y48c ?y48k; (case y48a => k_is); (case y48l => k_is); (case y48c => k_is); (case y48k => k_is)
      · refine' Fy.fn_is KX G ?y49a ?y49l ?y49c ?y49k; (case y49a => k_is); (case y49l => k_is); (case y49c => k_is); (case y49k => k_is)
      · refine' Fy.fn_is KX G ?y50a ?y50l ?y50c ?y50k; (case y50a => k_is); (case y50l => k_is); (case y50c => k_is); (case y50k => k_is)
      · refine' Fy.fn_is KX G ?y51a ?y51l ?y51c ?y51k; (case y51a => k_is); (case y51l => k_is); (case y51c => k_is); (case y51k => k_is)
      · refine' Fy.fn_is KX G ?y52a ?y52l ?y52c ?y52k; (case y52a => k_is); (case y52l => k_is); (case y52c => k_is); (case y52k => k_is)
      · refine' Fy.fn_is KX G ?y53a ?y53l ?y53c ?y53k; (case y53a => k_is); (case y53l => k_is); (case y53c => k_is); (case y53k => k_is)
      · refine' Fy.fn_is KX G ?y54a ?y54l ?y54c ?y54k; (case y54a => k_is); (case y54l => k_is); (case y54c => k_is); (case y54k => k_is)
      · refine' Fy.fn_is KX G ?y55a ?y55l ?y55c ?y55k; (case y55a => k_is); (case y55l => k_is); (case y55c => k_is); (case y55k => k_is)
      · refine' Fy.fn_is KX G ?y56a ?y56l ?y56c ?y56k; (case y56a => k_is); (case y56l => k_is); (case y56c => k_is); (case y56k => k_is)
      · refine' Fy.fn_is KX G ?y57a ?y57l ?y57c ?y57k; (case y57a => k_is); (case y57l => k_is); (case y57c => k_is); (case y57k => k_is)
      · refine' Fy.fn_is KX G ?y58a ?y58l ?y58c ?y58k; (case y58a => k_is); (case y58l => k_is); (case y58c => k_is); (case y58k => k_is)
      · refine' Fy.fn_is KX G ?y59a ?y59l ?y59c ?y59k; (case y59a => k_is); (case y59l => k_is); (case y59c => k_is); (case y59k => k_is)
      · refine' Fy.fn_is KX G ?y60a ?y60l ?y60c ?y60k; (case y60a => k_is); (case y60l => k_is); (case y60c => k_is); (case y60k => k_is)
      · refine' Fy.fn_is KX G ?y61a ?y61l ?y61c ?y61k; (case y61a => k_is); (case y61l => k_is); (case y61c => k_is); (case y61k => k_is)
      · refine' Fy.fn_is KX G ?y62a ?y62l ?y62c ?y62k; (case y62a => k_is); (case y62l => k_is); (case y62c => k_is); (case y62k => k_is)
      · refine' Fy.fn_is KX G ?y63a ?y63l ?y63c ?y63k; (case y63a => k_is); (case y63l => k_is); (case y63c => k_is); (case y63k => k_is)
      · refine' Fy.fn_is KX G ?y64a ?y64l ?y64c ?y64k; (case y64a => k_is); (case y64l => k_is); (case y64c => k_is); (case y64k => k_is)
      · refine' Fy.fn_is KX G ?y65a ?y65l ?y65c ?y65k; (case y65a => k_is); (case y65l => k_is); (case y65c => k_is); (case y65k => k_is)
      · refine' Fy.fn_is KX G ?y66a ?y66l ?y66c ?y66k; (case y66a => k_is); (case y66l => k_is); (case y66c => k_is); (case y66k => k_is)
      · refine' Fy.fn_is KX G ?y67a ?y67l ?y67c ?y67k; (case y67a => k_is); (case y67l => k_is); (case y67c => k_is); (case y67k => k_is)
      · refine' Fy.fn_is KX G ?y68a ?y68l ?y68c ?y68k; (case y68a => k_is); (case y68l => k_is); (case y68c => k_is); (case y68k => k_is)
      · refine' Fy.fn_is KX G ?y69a ?y69l ?y69c ?y69k; (case y69a => k_is); (case y69l => k_is); (case y69c => k_is); (case y69k => k_is)
      · refine' Fy.fn_is KX G ?y70a ?y70l ?y70c ?y70k; (case y70a => k_is); (case y70l => k_is); (case y70c => k_is); (case y70k => k_is)
      · refine' Fy.fn_is KX G ?y71a ?y71l ?y71c ?y71k; (case y71a => k_is); (case y71l => k_is); (case y71c => k_is); (case y71k => k_is)
      · refine' Fy.fn_is KX G ?y72a ?y72l ?y72c ?y72k; (case y72a => k_is); (case y72l => k_is); (case y72c => k_is); (case y72k => k_is)
      · refine' Fy.fn_is KX G ?y73a ?y73l ?y73c ?y73k; (case y73a => k_is); (case y73l => k_is); (case y73c => k_is); (case y73k => k_is)
      · refine' Fy.fn_is KX G ?y74a ?y74l ?y74c ?y74k; (case y74a => k_is); (case y74l => k_is); (case y74c => k_is); (case y74k => k_is)
      · refine' Fy.fn_is KX G ?y75a ?y75l ?y75c ?y75k; (case y75a => k_is); (case y75l => k_is); (case y75c => k_is); (case y75k => k_is)
      · refine' Fy.fn_is KX G ?y76a ?y76l ?y76c ?y76k; (case y76a => k_is); (case y76l => k_is); (case y76c => k_is); (case y76k => k_is)
      · refine' Fy.fn_is KX G ?y77a ?y77l ?y77c ?y77k; (case y77a => k_is); (case y77l => k_is); (case y77c => k_is); (case y77k => k_is)
      · refine' Fy.fn_is KX G ?y78a ?y78l ?y78c ?y78k; (case y78a => k_is); (case y78l => k_is); (case y78c => k_is); (case y78k => k_is)
      · refine' Fy.fn_is KX G ?y79a ?y79l ?y79c ?y79k; (case y79a => k_is); (case y79l => k_is); (case y79c => k_is); (case y79k => k_is)
      · refine' Fy.fn_is KX G ?y80a ?y80l ?y80c ?y80k; (case y80a => k_is); (case y80l => k_is); (case y80c => k_is); (case y80k => k_is)
      · refine' Fy.fn_is KX G ?y81a ?y81l ?y81c ?y81k; (case y81a => k_is); (case y81l => k_is); (case y81c => k_is); (case y81k => k_is)
      · refine' Fy.fn_is KX G ?y82a ?y82l ?y82c ?y82k; (case y82a => k_is); (case y82l => k_is); (case y82c => k_is); (case y82k => k_is)
      · intro x hx hne
        by_cases h_FILLED : x = "FILLED"
        · subst h_FILLED; show Fy.KT8 _ _ _ _ K90.t_FILLED; refine' Fy.kt_of KX G ?y87a ?y87l ?y87s ?y87e; (case y87a => k_is); (case y87l => k_is); (case y87s => rfl); (case y87e => (refine' ⟨_, _, rfl, ⟨_, rfl⟩, rfl, ?y86v, ?y86r⟩; (case y86v => exact ⟨_, rfl⟩); (case y86r => (refine' ⟨_, _, rfl, ⟨_, rfl⟩, rfl, ?y85v, ?y85r⟩; (case y85v => exact ⟨_, rfl⟩); (case y85r => (refine' ⟨_, _, rfl, ⟨_, rfl⟩, rfl, ?y84v, ?y84r⟩; (case y84v => exact ⟨_, rfl⟩); (case y84r => (refine' ⟨_, _, rfl, ⟨_, rfl⟩, rfl, ?y83v, ?y83r⟩; (case y83v => exact ⟨_, rfl⟩); (case y83r => exact rfl)))))))))
        by_cases h_FORMS : x = "FORMS"
        · subst h_FORMS; show Fy.KT8 _ _ _ _ K90.t_FORMS; refine' Fy.kt_of KX G ?y105a ?y105l ?y105s ?y105e; (case y105a => k_is); (case y105l => k_is); (case y105s => rfl); (case y105e => (refine' ⟨_, _, rfl, ⟨_, rfl⟩, rfl, ?y104v, ?y104r⟩; (case y104v => exact ⟨_, rfl⟩); (case y104r => (refine' ⟨_, _, rfl, ⟨_, rfl⟩, rfl, ?y103v, ?y103r⟩; (case y103v => exact ⟨_, rfl⟩); (case y103r => (refine' ⟨_, _, rfl, ⟨_, rfl⟩, rfl, ?y102v, ?y102r⟩; (case y102v => exact ⟨_, rfl⟩); (case y102r => (refine' ⟨_, _, rfl, ⟨_, rfl⟩, rfl, ?y101v, ?y101r⟩; (case y101v => exact ⟨_, rfl⟩); (case y101r => (refine' ⟨_, _, rfl, ⟨_, rfl⟩, rfl, ?y100v, ?y100r⟩; (case y100v => exact ⟨_, rfl⟩); (case y100r => (refine' ⟨_, _, rfl, ⟨_, rfl⟩, rfl, ?y99v, ?y99r⟩; (case y99v => exact ⟨_, rfl⟩); (case y99r => (refine' ⟨_, _, rfl, ⟨_, rfl⟩, rfl, ?y98v, ?y98r⟩; (case y98v => exact ⟨_, rfl⟩); (case y98r => (refine' ⟨_, _, rfl, ⟨_, rfl⟩, rfl, ?y97v, ?y97r⟩; (case y97v => exact ⟨_, rfl⟩); (case y97r => (refine' ⟨_, _, rfl, ⟨_, rfl⟩, rfl, ?y96v, ?y96r⟩; (case y96v => exact ⟨_, rfl⟩); (case y96r => (refine' ⟨_, _, rfl, ⟨_, rfl⟩, rfl, ?y95v, ?y95r⟩; (case y95v => exact ⟨_, rfl⟩); (case y95r => (refine' ⟨_, _, rfl, ⟨_, rfl⟩, rfl, ?y94v, ?y94r⟩; (case y94v => exact ⟨_, rfl⟩); (case y94r => (refine' ⟨_, _, rfl, ⟨_, rfl⟩, rfl, ?y93v, ?y93r⟩; (case y93v => exact ⟨_, rfl⟩); (case y93r => (refine' ⟨_, _, rfl, ⟨_, rfl⟩, rfl, ?y92v, ?y92r⟩; (case y92v => exact ⟨_, rfl⟩); (case y92r => (refine' ⟨_, _, rfl, ⟨_, rfl⟩, rfl, ?y91v, ?y91r⟩; (case y91v => exact ⟨_, rfl⟩); (case y91r => (refine' ⟨_, _, rfl, ⟨_, rfl⟩, rfl, ?y90v, ?y90r⟩; (case y90v => exact ⟨_, rfl⟩); (case y90r => (refine' ⟨_, _, rfl, ⟨_, rfl⟩, rfl, ?y89v, ?y89r⟩; (case y89v => exact ⟨_, rfl⟩); (case y89r => (refine' ⟨_, _, rfl, ⟨_, rfl⟩, rfl, ?y88v, ?y88r⟩; (case y88v => exact ⟨_, rfl⟩); (case y88r => exact rfl)))))))))))))))))))))))))))))))))))
        by_cases h_SPENT : x = "SPENT"
        · subst h_SPENT; show Fy.KT8 _ _ _ _ K90.t_SPENT; refine' Fy.kt_of KX G ?y110a ?y110l ?y110s ?y110e; (case y110a => k_is); (case y110l => k_is); (case y110s => rfl); (case y110e => (refine' ⟨_, _, rfl, ⟨_, rfl⟩, rfl, ?y109v, ?y109r⟩; (case y109v => exact ⟨_, rfl⟩); (case y109r => (refine' ⟨_, _, rfl, ⟨_, rfl⟩, rfl, ?y108v, ?y108r⟩; (case y108v => exact ⟨_, rfl⟩); (case y108r => (refine' ⟨_, _, rfl, ⟨_, rfl⟩, rfl, ?y107v, ?y107r⟩; (case y107v => exact ⟨_, rfl⟩); (case y107r => (refine' ⟨_, _, rfl, ⟨_, rfl⟩, rfl, ?y106v, ?y106r⟩; (case y106v => exact ⟨_, rfl⟩); (case y106r => exact rfl)))))))))
        by_cases h_UNLIKE : x = "UNLIKE"
        · subst h_UNLIKE; show Fy.KT8 _ _ _ _ K90.t_UNLIKE; refine' Fy.kt_of KX G ?y115a ?y115l ?y115s ?y115e; (case y115a => k_is); (case y115l => k_is); (case y115s => rfl); (case y115e => (refine' ⟨_, _, rfl, ⟨_, rfl⟩, rfl, ?y113v, ?y113r⟩; (case y113v => (refine' Fy.cv_tup ?y114l ?y114z ?y114f; (case y114l => k_is); (case y114z => exact Fy.small_of (n := 2) rfl (by decide)); (case y114f => exact ⟨_, _, rfl, ⟨_, rfl⟩, ⟨_, _, rfl, ⟨_, rfl⟩, rfl⟩⟩))); (case y113r => (refine' ⟨_, _, rfl, ⟨_, rfl⟩, rfl, ?y111v, ?y111r⟩; (case y111v => (refine' Fy.cv_tup ?y112l ?y112z ?y112f; (case y112l => k_is); (case y112z => exact Fy.small_of (n := 2) rfl (by decide)); (case y112f => exact ⟨_, _, rfl, ⟨_, rfl⟩, ⟨_, _, rfl, ⟨_, rfl⟩, rfl⟩⟩))); (case y111r => exact rfl)))))
        by_cases h_USED : x = "USED"
        · subst h_USED; show Fy.KT8 _ _ _ _ K90.t_USED; refine' Fy.kt_of KX G ?y136a ?y136l ?y136s ?y136e; (case y136a => k_is); (case y136l => k_is); (case y136s => rfl); (case y136e => (refine' ⟨_, _, rfl, ⟨_, rfl⟩, rfl, ?y134v, ?y134r⟩; (case y134v => (refine' Fy.cv_tup ?y135l ?y135z ?y135f; (case y135l => k_is); (case y135z => exact Fy.small_of (n := 1) rfl (by decide)); (case y135f => exact ⟨_, _, rfl, ⟨_, rfl⟩, rfl⟩))); (case y134r => (refine' ⟨_, _, rfl, ⟨_, rfl⟩, rfl, ?y132v, ?y132r⟩; (case y132v => (refine' Fy.cv_tup ?y133l ?y133z ?y133f; (case y133l => k_is); (case y133z => exact Fy.small_of (n := 1) rfl (by decide)); (case y133f => exact ⟨_, _, rfl, ⟨_, rfl⟩, rfl⟩))); (case y132r => (refine' ⟨_, _, rfl, ⟨_, rfl⟩, rfl, ?y130v, ?y130r⟩; (case y130v => (refine' Fy.cv_tup ?y131l ?y131z ?y131f; (case y131l => k_is); (case y131z => exact Fy.small_of (n := 1) rfl (by decide)); (case y131f => exact ⟨_, _, rfl, ⟨_, rfl⟩, rfl⟩))); (case y130r => (refine' ⟨_, _, rfl, ⟨_, rfl⟩, rfl, ?y128v, ?y128r⟩; (case y128v => (refine' Fy.cv_tup ?y129l ?y129z ?y129f; (case y129l => k_is); (case y129z => exact Fy.small_of (n := 1) rfl (by decide)); (case y129f => exact ⟨_, _, rfl, ⟨_, rfl⟩, rfl⟩))); (case y128r => (refine' ⟨_, _, rfl, ⟨_, rfl⟩, rfl, ?y126v, ?y126r⟩; (case y126v => (refine' Fy.cv_tup ?y127l ?y127z ?y127f; (case y127l => k_is); (case y127z => exact Fy.small_of (n := 1) rfl (by decide)); (case y127f => exact ⟨_, _, rfl, ⟨_, rfl⟩, rfl⟩))); (case y126r => (refine' ⟨_, _, rfl, ⟨_, rfl⟩, rfl, ?y124v, ?y124r⟩; (case y124v => (refine' Fy.cv_tup ?y125l ?y125z ?y125f; (case y125l => k_is); (case y125z => exact Fy.small_of (n := 1) rfl (by decide)); (case y125f => exact ⟨_, _, rfl, ⟨_, rfl⟩, rfl⟩))); (case y124r => (refine' ⟨_, _, rfl, ⟨_, rfl⟩, rfl, ?y122v, ?y122r⟩; (case y122v => (refine' Fy.cv_tup ?y123l ?y123z ?y123f; (case y123l => k_is); (case y123z => exact Fy.small_of (n := 1) rfl (by decide)); (case y123f => exact ⟨_, _, rfl, ⟨_, rfl⟩, rfl⟩))); (case y122r => (refine' ⟨_, _, rfl, ⟨_, rfl⟩, rfl, ?y120v, ?y120r⟩; (case y120v => (refine' Fy.cv_tup ?y121l ?y121z ?y121f; (case y121l => k_is); (case y121z => exact Fy.small_of (n := 1) rfl (by decide)); (case y121f => exact ⟨_, _, rfl, ⟨_, rfl⟩, rfl⟩))); (case y120r => (refine' ⟨_, _, rfl, ⟨_, rfl⟩, rfl, ?y118v, ?y118r⟩; (case y118v => (refine' Fy.cv_tup ?y119l ?y119z ?y119f; (case y119l => k_is); (case y119z => exact Fy.small_of (n := 1) rfl (by decide)); (case y119f => exact ⟨_, _, rfl, ⟨_, rfl⟩, rfl⟩))); (case y118r => (refine' ⟨_, _, rfl, ⟨_, rfl⟩, rfl, ?y116v, ?y116r⟩; (case y116v => (refine' Fy.cv_tup ?y117l ?y117z ?y117f; (case y117l => k_is); (case y117z => exact Fy.small_of (n := 2) rfl (by decide)); (case y117f => exact ⟨_, _, rfl, ⟨_, rfl⟩, ⟨_, _, rfl, ⟨_, rfl⟩, rfl⟩⟩))); (case y116r => exact rfl)))))))))))))))))))))
        exact absurd (show K90.G x = [] by unfold K90.G; simp [h_FILLED, h_FORMS, h_SPENT, h_UNLIKE, h_USED]) hne
    obtain ⟨f, fd, Fn, hm⟩ := fx.f_law
    have hf := hm.symm.trans hmg
    cases hf
    refine ⟨fd, ?_, fun base _ _ => (K90.raw_law fx Fn).imp (Fy.law_imp K90.law_true)⟩
    obtain ⟨oc, od, kV, doc, pm, an, cdv, ct, osl, rfl, lk, hcd⟩ := Fn.ex
    exact fun s u => .of_eq rfl
  case X =>
    rintro w H s e s' ⟨_, _, _, _, _, _, _, _, _, _, _, _, z⟩
    exact z
